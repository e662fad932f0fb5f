/- CsL10: what each function does, by its own code. No condition beyond those of each statement. -/
import Derived.Test.YtigeaknjhnichaaCsR4
namespace Go.Proofs.Ytigeaknjhnichaa
open Go Go.RowKit Go.Cs
set_option maxRecDepth 100000
set_option linter.all false
set_option linter.unusedVariables false

theorem c_RecordsSlots00   (w : World)  :
    Calls Try.prog 11 #[(.int .u8 ((0 : Nat) : Int)), (.int .i64 ((0 : Nat) : Int))] w (Ret fun r w' => r = (.bool true) ∧ Ext w w') := by
  refine calls_of (n := 98) (σ := [(0, (.int .u8 ((0 : Nat) : Int))), (1, (.int .i64 ((0 : Nat) : Int)))]) Try.func11 rfl (by kernel_rfl) ?_
  refine wpC_seq ?_
  refine wpC_region ?_
  refine wpF_run 1 [(4, (.bool false))] (by kernel_rfl) ?_
  refine wpF_end (by kernel_rfl) ?_
  refine then_code ?_
  refine wpC_seq ?_
  refine wpC_region ?_
  refine wpF_run 1 [(14, (.int .u8 ((0 : Nat) : Int)))] (by kernel_rfl) ?_
  refine wpF_step (op_callAt (d := (some 15)) (by kernel_rfl) (c_Slot0 _) ?_)
  rintro _ w1 ⟨rfl, hEw1⟩
  have hzw1 := hEw1.size
  refine wpF_run 5 [(6, (.int .i64 ((11 : Nat) : Int))), (5, (.int .i64 ((0 : Nat) : Int))), (17, (.int .i64 ((11 : Nat) : Int))), (16, (.int .i64 ((0 : Nat) : Int))), (13, (.tuple #[(.int .i64 ((0 : Nat) : Int)), (.int .i64 ((11 : Nat) : Int))]))] (by kernel_rfl) ?_
  refine wpF_end (by kernel_rfl) ?_
  refine then_code ?_
  refine wpC_seq ?_
  refine wpC_region ?_
  refine wpF_run 1 [(19, (.int .i64 ((0 : Nat) : Int)))] (by kernel_rfl) ?_
  refine wpF_step (op_callAt (d := (some 20)) (by kernel_rfl) (c_State0 _) ?_)
  rintro _ w2 ⟨rfl, hEw2⟩
  have hzw2 := hEw2.size
  refine wpF_run 5 [(8, (.int .i64 ((0 : Nat) : Int))), (7, (.int .u8 ((1 : Nat) : Int))), (22, (.int .i64 ((0 : Nat) : Int))), (21, (.int .u8 ((1 : Nat) : Int))), (18, (.tuple #[(.int .u8 ((1 : Nat) : Int)), (.int .i64 ((0 : Nat) : Int))]))] (by kernel_rfl) ?_
  refine wpF_end (by kernel_rfl) ?_
  refine then_code ?_
  refine wpC_seq ?_
  refine wpC_block ?_
  refine wpC_seq ?_
  refine wpC_region ?_
  refine wpF_run 3 [(46, (.bool true)), (48, (.bool true)), (47, (.int .u8 ((0 : Nat) : Int)))] (by kernel_rfl) ?_
  refine wpF_end (by kernel_rfl) ?_
  refine then_code ?_
  refine wpC_true (by kernel_rfl) ?_
  refine wpC_seq ?_
  refine wpC_region ?_
  refine wpF_run 6 [(54, (.bool false)), (53, (.bool false)), (52, (.int .i64 ((11 : Nat) : Int))), (51, (.bool false)), (50, (.bool false)), (49, (.int .i64 ((0 : Nat) : Int)))] (by kernel_rfl) ?_
  refine wpF_end (by kernel_rfl) ?_
  refine then_code ?_
  refine wpC_false (by kernel_rfl) ?_
  refine wpC_skip ?_
  refine inBlock_normal ?_
  refine then_code ?_
  refine wpC_seq ?_
  refine wpC_seq ?_
  refine wpC_region ?_
  refine wpF_run 6 [(69, (.bool false)), (68, (.bool false)), (67, (.int .i64 ((0 : Nat) : Int))), (66, (.bool false)), (65, (.bool false)), (64, (.int .i64 ((0 : Nat) : Int)))] (by kernel_rfl) ?_
  refine wpF_end (by kernel_rfl) ?_
  refine then_code ?_
  refine wpC_false (by kernel_rfl) ?_
  refine wpC_skip ?_
  refine then_code ?_
  refine wpC_seq ?_
  refine wpC_region ?_
  refine wpF_run 1 [(80, (.int .u8 ((1 : Nat) : Int)))] (by kernel_rfl) ?_
  refine wpF_step (op_callAt (d := (some 81)) (by kernel_rfl) (c_Slot1 _) ?_)
  rintro _ w3 ⟨rfl, hEw3⟩
  have hzw3 := hEw3.size
  refine wpF_run 5 [(12, (.int .i64 ((0 : Nat) : Int))), (11, (.int .i64 ((0 : Nat) : Int))), (83, (.int .i64 ((0 : Nat) : Int))), (82, (.int .i64 ((0 : Nat) : Int))), (79, (.tuple #[(.int .i64 ((0 : Nat) : Int)), (.int .i64 ((0 : Nat) : Int))]))] (by kernel_rfl) ?_
  refine wpF_end (by kernel_rfl) ?_
  refine then_code ?_
  refine wpC_seq ?_
  refine wpC_region ?_
  refine wpF_run 12 [(95, (.bool true)), (94, (.bool true)), (93, (.bool true)), (92, (.int .i64 ((0 : Nat) : Int))), (91, (.bool true)), (90, (.bool true)), (89, (.bool true)), (88, (.int .i64 ((0 : Nat) : Int))), (87, (.int .i64 ((0 : Nat) : Int))), (86, (.bool true)), (85, (.bool true)), (84, (.int .i64 ((0 : Nat) : Int)))] (by kernel_rfl) ?_
  refine wpF_step (op_callAt (d := (some 96)) (by kernel_rfl) (c_lives10 _) ?_)
  rintro _ w4 ⟨rfl, hEw4⟩
  have hzw4 := hEw4.size
  refine wpF_run 2 [(4, (.bool true)), (97, (.bool true))] (by kernel_rfl) ?_
  refine wpF_end (by kernel_rfl) ?_
  refine then_code ?_
  refine wpC_ret ?_
  refine body_ret1 (by kernel_rfl) (show resVal Try.prog 98 _ _ (.tmp 4) (.bool true) by (show _ = _; kernel_rfl)) ?_
  exact ⟨rfl, (((hEw1.trans hEw2).trans hEw3).trans hEw4)⟩

theorem c_RecordsSlots01   (w : World)  :
    Calls Try.prog 11 #[(.int .u8 ((0 : Nat) : Int)), (.int .i64 ((1 : Nat) : Int))] w (Ret fun r w' => r = (.bool true) ∧ Ext w w') := by
  refine calls_of (n := 98) (σ := [(0, (.int .u8 ((0 : Nat) : Int))), (1, (.int .i64 ((1 : Nat) : Int)))]) Try.func11 rfl (by kernel_rfl) ?_
  refine wpC_seq ?_
  refine wpC_region ?_
  refine wpF_run 1 [(4, (.bool false))] (by kernel_rfl) ?_
  refine wpF_end (by kernel_rfl) ?_
  refine then_code ?_
  refine wpC_seq ?_
  refine wpC_region ?_
  refine wpF_run 1 [(14, (.int .u8 ((0 : Nat) : Int)))] (by kernel_rfl) ?_
  refine wpF_step (op_callAt (d := (some 15)) (by kernel_rfl) (c_Slot0 _) ?_)
  rintro _ w1 ⟨rfl, hEw1⟩
  have hzw1 := hEw1.size
  refine wpF_run 5 [(6, (.int .i64 ((11 : Nat) : Int))), (5, (.int .i64 ((0 : Nat) : Int))), (17, (.int .i64 ((11 : Nat) : Int))), (16, (.int .i64 ((0 : Nat) : Int))), (13, (.tuple #[(.int .i64 ((0 : Nat) : Int)), (.int .i64 ((11 : Nat) : Int))]))] (by kernel_rfl) ?_
  refine wpF_end (by kernel_rfl) ?_
  refine then_code ?_
  refine wpC_seq ?_
  refine wpC_region ?_
  refine wpF_run 1 [(19, (.int .i64 ((1 : Nat) : Int)))] (by kernel_rfl) ?_
  refine wpF_step (op_callAt (d := (some 20)) (by kernel_rfl) (c_State1 _) ?_)
  rintro _ w2 ⟨rfl, hEw2⟩
  have hzw2 := hEw2.size
  refine wpF_run 5 [(8, (.int .i64 ((0 : Nat) : Int))), (7, (.int .u8 ((2 : Nat) : Int))), (22, (.int .i64 ((0 : Nat) : Int))), (21, (.int .u8 ((2 : Nat) : Int))), (18, (.tuple #[(.int .u8 ((2 : Nat) : Int)), (.int .i64 ((0 : Nat) : Int))]))] (by kernel_rfl) ?_
  refine wpF_end (by kernel_rfl) ?_
  refine then_code ?_
  refine wpC_seq ?_
  refine wpC_block ?_
  refine wpC_seq ?_
  refine wpC_region ?_
  refine wpF_run 3 [(46, (.bool true)), (48, (.bool true)), (47, (.int .u8 ((0 : Nat) : Int)))] (by kernel_rfl) ?_
  refine wpF_end (by kernel_rfl) ?_
  refine then_code ?_
  refine wpC_true (by kernel_rfl) ?_
  refine wpC_seq ?_
  refine wpC_region ?_
  refine wpF_run 6 [(54, (.bool false)), (53, (.bool false)), (52, (.int .i64 ((11 : Nat) : Int))), (51, (.bool false)), (50, (.bool false)), (49, (.int .i64 ((0 : Nat) : Int)))] (by kernel_rfl) ?_
  refine wpF_end (by kernel_rfl) ?_
  refine then_code ?_
  refine wpC_false (by kernel_rfl) ?_
  refine wpC_skip ?_
  refine inBlock_normal ?_
  refine then_code ?_
  refine wpC_seq ?_
  refine wpC_seq ?_
  refine wpC_region ?_
  refine wpF_run 6 [(69, (.bool false)), (68, (.bool false)), (67, (.int .i64 ((1 : Nat) : Int))), (66, (.bool false)), (65, (.bool false)), (64, (.int .i64 ((1 : Nat) : Int)))] (by kernel_rfl) ?_
  refine wpF_end (by kernel_rfl) ?_
  refine then_code ?_
  refine wpC_false (by kernel_rfl) ?_
  refine wpC_skip ?_
  refine then_code ?_
  refine wpC_seq ?_
  refine wpC_region ?_
  refine wpF_run 1 [(80, (.int .u8 ((2 : Nat) : Int)))] (by kernel_rfl) ?_
  refine wpF_step (op_callAt (d := (some 81)) (by kernel_rfl) (c_Slot2 _) ?_)
  rintro _ w3 ⟨rfl, hEw3⟩
  have hzw3 := hEw3.size
  refine wpF_run 5 [(12, (.int .i64 ((0 : Nat) : Int))), (11, (.int .i64 ((1 : Nat) : Int))), (83, (.int .i64 ((0 : Nat) : Int))), (82, (.int .i64 ((1 : Nat) : Int))), (79, (.tuple #[(.int .i64 ((1 : Nat) : Int)), (.int .i64 ((0 : Nat) : Int))]))] (by kernel_rfl) ?_
  refine wpF_end (by kernel_rfl) ?_
  refine then_code ?_
  refine wpC_seq ?_
  refine wpC_region ?_
  refine wpF_run 12 [(95, (.bool true)), (94, (.bool true)), (93, (.bool true)), (92, (.int .i64 ((0 : Nat) : Int))), (91, (.bool true)), (90, (.bool true)), (89, (.bool true)), (88, (.int .i64 ((1 : Nat) : Int))), (87, (.int .i64 ((1 : Nat) : Int))), (86, (.bool true)), (85, (.bool true)), (84, (.int .i64 ((0 : Nat) : Int)))] (by kernel_rfl) ?_
  refine wpF_step (op_callAt (d := (some 96)) (by kernel_rfl) (c_lives10 _) ?_)
  rintro _ w4 ⟨rfl, hEw4⟩
  have hzw4 := hEw4.size
  refine wpF_run 2 [(4, (.bool true)), (97, (.bool true))] (by kernel_rfl) ?_
  refine wpF_end (by kernel_rfl) ?_
  refine then_code ?_
  refine wpC_ret ?_
  refine body_ret1 (by kernel_rfl) (show resVal Try.prog 98 _ _ (.tmp 4) (.bool true) by (show _ = _; kernel_rfl)) ?_
  exact ⟨rfl, (((hEw1.trans hEw2).trans hEw3).trans hEw4)⟩

theorem c_RecordsSlots02 (p : Int)  (w : World) (hp0 : p ≠ 0) (hp1 : p ≠ 1) :
    Calls Try.prog 11 #[(.int .u8 ((0 : Nat) : Int)), (.int .i64 p)] w (Ret fun r w' => r = (.bool true) ∧ Ext w w') := by
  refine calls_of (n := 98) (σ := [(0, (.int .u8 ((0 : Nat) : Int))), (1, (.int .i64 p))]) Try.func11 rfl (by kernel_rfl) ?_
  refine wpC_seq ?_
  refine wpC_region ?_
  refine wpF_run 1 [(4, (.bool false))] (by kernel_rfl) ?_
  refine wpF_end (by kernel_rfl) ?_
  refine then_code ?_
  refine wpC_seq ?_
  refine wpC_region ?_
  refine wpF_run 1 [(14, (.int .u8 ((0 : Nat) : Int)))] (by kernel_rfl) ?_
  refine wpF_step (op_callAt (d := (some 15)) (by kernel_rfl) (c_Slot0 _) ?_)
  rintro _ w1 ⟨rfl, hEw1⟩
  have hzw1 := hEw1.size
  refine wpF_run 5 [(6, (.int .i64 ((11 : Nat) : Int))), (5, (.int .i64 ((0 : Nat) : Int))), (17, (.int .i64 ((11 : Nat) : Int))), (16, (.int .i64 ((0 : Nat) : Int))), (13, (.tuple #[(.int .i64 ((0 : Nat) : Int)), (.int .i64 ((11 : Nat) : Int))]))] (by kernel_rfl) ?_
  refine wpF_end (by kernel_rfl) ?_
  refine then_code ?_
  refine wpC_seq ?_
  refine wpC_region ?_
  refine wpF_run 1 [(19, (.int .i64 p))] (by kernel_rfl) ?_
  refine wpF_step (op_callAt (d := (some 20)) (by kernel_rfl) (c_StateBad p _ (by omega) (by omega)) ?_)
  rintro _ w2 ⟨rfl, hEw2⟩
  have hzw2 := hEw2.size
  refine wpF_run 5 [(8, (.int .i64 ((1 : Nat) : Int))), (7, (.int .u8 ((0 : Nat) : Int))), (22, (.int .i64 ((1 : Nat) : Int))), (21, (.int .u8 ((0 : Nat) : Int))), (18, (.tuple #[(.int .u8 ((0 : Nat) : Int)), (.int .i64 ((1 : Nat) : Int))]))] (by kernel_rfl) ?_
  refine wpF_end (by kernel_rfl) ?_
  refine then_code ?_
  refine wpC_seq ?_
  refine wpC_block ?_
  refine wpC_seq ?_
  refine wpC_region ?_
  refine wpF_run 3 [(46, (.bool true)), (48, (.bool true)), (47, (.int .u8 ((0 : Nat) : Int)))] (by kernel_rfl) ?_
  refine wpF_end (by kernel_rfl) ?_
  refine then_code ?_
  refine wpC_true (by kernel_rfl) ?_
  refine wpC_seq ?_
  refine wpC_region ?_
  refine wpF_run 6 [(54, (.bool false)), (53, (.bool false)), (52, (.int .i64 ((11 : Nat) : Int))), (51, (.bool false)), (50, (.bool false)), (49, (.int .i64 ((0 : Nat) : Int)))] (by kernel_rfl) ?_
  refine wpF_end (by kernel_rfl) ?_
  refine then_code ?_
  refine wpC_false (by kernel_rfl) ?_
  refine wpC_skip ?_
  refine inBlock_normal ?_
  refine then_code ?_
  refine wpC_seq ?_
  refine wpC_seq ?_
  refine wpC_region ?_
  refine wpF_run 1 [(64, (.int .i64 p))] (by kernel_rfl) ?_
  refine wpF_step (op_split (d := (some 65)) (decide (p < ((0 : Nat) : Int))) (by kernel_rfl) (fun hc65 => ?_) (fun hc65 => ?_))
  · replace hc65 : p < ((0 : Nat) : Int) := by have := of_d_t hc65; omega
    refine wpF_run 4 [(69, (.bool true)), (68, undef), (67, undef), (66, (.bool true))] (by kernel_rfl) ?_
    refine wpF_end (by kernel_rfl) ?_
    refine then_code ?_
    refine wpC_true (by kernel_rfl) ?_
    refine wpC_seq ?_
    refine wpC_region ?_
    refine wpF_run 7 [(76, (.bool true)), (75, (.bool true)), (74, (.bool true)), (73, (.int .i64 ((1 : Nat) : Int))), (72, (.bool true)), (71, (.bool true)), (70, (.int .u8 ((0 : Nat) : Int)))] (by kernel_rfl) ?_
    refine wpF_step (op_callAt (d := (some 77)) (by kernel_rfl) (c_lives10 _) ?_)
    rintro _ w3 ⟨rfl, hEw3⟩
    have hzw3 := hEw3.size
    refine wpF_run 2 [(4, (.bool true)), (78, (.bool true))] (by kernel_rfl) ?_
    refine wpF_end (by kernel_rfl) ?_
    refine then_code ?_
    refine wpC_ret ?_
    refine then_ret ?_
    refine body_ret1 (by kernel_rfl) (show resVal Try.prog 98 _ _ (.tmp 4) (.bool true) by (show _ = _; kernel_rfl)) ?_
    exact ⟨rfl, ((hEw1.trans hEw2).trans hEw3)⟩
  · replace hc65 : ¬ (p < ((0 : Nat) : Int)) := by have := of_d_f hc65; omega
    refine wpF_run 2 [(67, (.int .i64 p)), (66, (.bool false))] (by kernel_rfl) ?_
    refine wpF_step (op_eqv (d := (some 68)) (.bool (decide (p > ((1 : Nat) : Int)))) (.bool true) (by kernel_rfl) (congrArg Value.bool (cmpDT (by omega))) ?_)
    refine wpF_run 1 [(69, (.bool true))] (by kernel_rfl) ?_
    refine wpF_end (by kernel_rfl) ?_
    refine then_code ?_
    refine wpC_true (by kernel_rfl) ?_
    refine wpC_seq ?_
    refine wpC_region ?_
    refine wpF_run 7 [(76, (.bool true)), (75, (.bool true)), (74, (.bool true)), (73, (.int .i64 ((1 : Nat) : Int))), (72, (.bool true)), (71, (.bool true)), (70, (.int .u8 ((0 : Nat) : Int)))] (by kernel_rfl) ?_
    refine wpF_step (op_callAt (d := (some 77)) (by kernel_rfl) (c_lives10 _) ?_)
    rintro _ w4 ⟨rfl, hEw4⟩
    have hzw4 := hEw4.size
    refine wpF_run 2 [(4, (.bool true)), (78, (.bool true))] (by kernel_rfl) ?_
    refine wpF_end (by kernel_rfl) ?_
    refine then_code ?_
    refine wpC_ret ?_
    refine then_ret ?_
    refine body_ret1 (by kernel_rfl) (show resVal Try.prog 98 _ _ (.tmp 4) (.bool true) by (show _ = _; kernel_rfl)) ?_
    exact ⟨rfl, ((hEw1.trans hEw2).trans hEw4)⟩

theorem c_RecordsSlots10   (w : World)  :
    Calls Try.prog 11 #[(.int .u8 ((1 : Nat) : Int)), (.int .i64 ((0 : Nat) : Int))] w (Ret fun r w' => r = (.bool true) ∧ Ext w w') := by
  refine calls_of (n := 98) (σ := [(0, (.int .u8 ((1 : Nat) : Int))), (1, (.int .i64 ((0 : Nat) : Int)))]) Try.func11 rfl (by kernel_rfl) ?_
  refine wpC_seq ?_
  refine wpC_region ?_
  refine wpF_run 1 [(4, (.bool false))] (by kernel_rfl) ?_
  refine wpF_end (by kernel_rfl) ?_
  refine then_code ?_
  refine wpC_seq ?_
  refine wpC_region ?_
  refine wpF_run 1 [(14, (.int .u8 ((1 : Nat) : Int)))] (by kernel_rfl) ?_
  refine wpF_step (op_callAt (d := (some 15)) (by kernel_rfl) (c_Slot1 _) ?_)
  rintro _ w1 ⟨rfl, hEw1⟩
  have hzw1 := hEw1.size
  refine wpF_run 5 [(6, (.int .i64 ((0 : Nat) : Int))), (5, (.int .i64 ((0 : Nat) : Int))), (17, (.int .i64 ((0 : Nat) : Int))), (16, (.int .i64 ((0 : Nat) : Int))), (13, (.tuple #[(.int .i64 ((0 : Nat) : Int)), (.int .i64 ((0 : Nat) : Int))]))] (by kernel_rfl) ?_
  refine wpF_end (by kernel_rfl) ?_
  refine then_code ?_
  refine wpC_seq ?_
  refine wpC_region ?_
  refine wpF_run 1 [(19, (.int .i64 ((0 : Nat) : Int)))] (by kernel_rfl) ?_
  refine wpF_step (op_callAt (d := (some 20)) (by kernel_rfl) (c_State0 _) ?_)
  rintro _ w2 ⟨rfl, hEw2⟩
  have hzw2 := hEw2.size
  refine wpF_run 5 [(8, (.int .i64 ((0 : Nat) : Int))), (7, (.int .u8 ((1 : Nat) : Int))), (22, (.int .i64 ((0 : Nat) : Int))), (21, (.int .u8 ((1 : Nat) : Int))), (18, (.tuple #[(.int .u8 ((1 : Nat) : Int)), (.int .i64 ((0 : Nat) : Int))]))] (by kernel_rfl) ?_
  refine wpF_end (by kernel_rfl) ?_
  refine then_code ?_
  refine wpC_seq ?_
  refine wpC_block ?_
  refine wpC_seq ?_
  refine wpC_region ?_
  refine wpF_run 3 [(46, (.bool false)), (48, (.bool false)), (47, (.int .u8 ((1 : Nat) : Int)))] (by kernel_rfl) ?_
  refine wpF_end (by kernel_rfl) ?_
  refine then_code ?_
  refine wpC_false (by kernel_rfl) ?_
  refine wpC_seq ?_
  refine wpC_region ?_
  refine wpF_run 3 [(55, (.bool false)), (57, (.bool false)), (56, (.int .u8 ((1 : Nat) : Int)))] (by kernel_rfl) ?_
  refine wpF_end (by kernel_rfl) ?_
  refine then_code ?_
  refine wpC_false (by kernel_rfl) ?_
  refine wpC_seq ?_
  refine wpC_region ?_
  refine wpF_run 1 [(24, (.int .i64 ((0 : Nat) : Int)))] (by kernel_rfl) ?_
  refine wpF_step (op_callAt (d := (some 25)) (by kernel_rfl) (c_State0 _) ?_)
  rintro _ w3 ⟨rfl, hEw3⟩
  have hzw3 := hEw3.size
  refine wpF_run 5 [(10, (.int .i64 ((0 : Nat) : Int))), (9, (.int .u8 ((1 : Nat) : Int))), (27, (.int .i64 ((0 : Nat) : Int))), (26, (.int .u8 ((1 : Nat) : Int))), (23, (.tuple #[(.int .u8 ((1 : Nat) : Int)), (.int .i64 ((0 : Nat) : Int))]))] (by kernel_rfl) ?_
  refine wpF_end (by kernel_rfl) ?_
  refine then_code ?_
  refine wpC_seq ?_
  refine wpC_region ?_
  refine wpF_run 5 [(32, (.int .u8 ((1 : Nat) : Int))), (31, (.int .i64 ((0 : Nat) : Int))), (30, (.bool false)), (29, (.bool false)), (28, (.int .i64 ((0 : Nat) : Int)))] (by kernel_rfl) ?_
  refine wpF_step (op_eqv (d := (some 33)) (.int .i64 (IntKind.i64.wrap ((1 : Nat) : Int))) (.int .i64 ((1 : Nat) : Int)) (by kernel_rfl) (congrArg (Value.int .i64) (wrapS rfl (by omega) (by omega))) ?_)
  refine wpF_step (op_eqv (d := (some 34)) (.int .i64 (IntKind.i64.wrap (((1 : Nat) : Int) - ((1 : Nat) : Int)))) (.int .i64 ((0 : Nat) : Int)) (by kernel_rfl) (congrArg (Value.int .i64) (wrapS (by omega) (by omega) (by omega))) ?_)
  refine wpF_run 11 [(45, (.bool false)), (44, (.bool false)), (43, (.int .i64 ((0 : Nat) : Int))), (42, (.bool false)), (41, (.bool false)), (40, (.bool false)), (39, (.int .u8 ((1 : Nat) : Int))), (38, (.int .u8 ((1 : Nat) : Int))), (37, (.bool false)), (36, (.bool false)), (35, (.bool false))] (by kernel_rfl) ?_
  refine wpF_end (by kernel_rfl) ?_
  refine then_code ?_
  refine wpC_false (by kernel_rfl) ?_
  refine wpC_skip ?_
  refine inBlock_normal ?_
  refine then_code ?_
  refine wpC_seq ?_
  refine wpC_seq ?_
  refine wpC_region ?_
  refine wpF_run 6 [(69, (.bool false)), (68, (.bool false)), (67, (.int .i64 ((0 : Nat) : Int))), (66, (.bool false)), (65, (.bool false)), (64, (.int .i64 ((0 : Nat) : Int)))] (by kernel_rfl) ?_
  refine wpF_end (by kernel_rfl) ?_
  refine then_code ?_
  refine wpC_false (by kernel_rfl) ?_
  refine wpC_skip ?_
  refine then_code ?_
  refine wpC_seq ?_
  refine wpC_region ?_
  refine wpF_run 1 [(80, (.int .u8 ((1 : Nat) : Int)))] (by kernel_rfl) ?_
  refine wpF_step (op_callAt (d := (some 81)) (by kernel_rfl) (c_Slot1 _) ?_)
  rintro _ w4 ⟨rfl, hEw4⟩
  have hzw4 := hEw4.size
  refine wpF_run 5 [(12, (.int .i64 ((0 : Nat) : Int))), (11, (.int .i64 ((0 : Nat) : Int))), (83, (.int .i64 ((0 : Nat) : Int))), (82, (.int .i64 ((0 : Nat) : Int))), (79, (.tuple #[(.int .i64 ((0 : Nat) : Int)), (.int .i64 ((0 : Nat) : Int))]))] (by kernel_rfl) ?_
  refine wpF_end (by kernel_rfl) ?_
  refine then_code ?_
  refine wpC_seq ?_
  refine wpC_region ?_
  refine wpF_run 12 [(95, (.bool true)), (94, (.bool true)), (93, (.bool true)), (92, (.int .i64 ((0 : Nat) : Int))), (91, (.bool true)), (90, (.bool true)), (89, (.bool true)), (88, (.int .i64 ((0 : Nat) : Int))), (87, (.int .i64 ((0 : Nat) : Int))), (86, (.bool true)), (85, (.bool true)), (84, (.int .i64 ((0 : Nat) : Int)))] (by kernel_rfl) ?_
  refine wpF_step (op_callAt (d := (some 96)) (by kernel_rfl) (c_lives10 _) ?_)
  rintro _ w5 ⟨rfl, hEw5⟩
  have hzw5 := hEw5.size
  refine wpF_run 2 [(4, (.bool true)), (97, (.bool true))] (by kernel_rfl) ?_
  refine wpF_end (by kernel_rfl) ?_
  refine then_code ?_
  refine wpC_ret ?_
  refine body_ret1 (by kernel_rfl) (show resVal Try.prog 98 _ _ (.tmp 4) (.bool true) by (show _ = _; kernel_rfl)) ?_
  exact ⟨rfl, ((((hEw1.trans hEw2).trans hEw3).trans hEw4).trans hEw5)⟩

theorem c_RecordsSlots11   (w : World)  :
    Calls Try.prog 11 #[(.int .u8 ((1 : Nat) : Int)), (.int .i64 ((1 : Nat) : Int))] w (Ret fun r w' => r = (.bool true) ∧ Ext w w') := by
  refine calls_of (n := 98) (σ := [(0, (.int .u8 ((1 : Nat) : Int))), (1, (.int .i64 ((1 : Nat) : Int)))]) Try.func11 rfl (by kernel_rfl) ?_
  refine wpC_seq ?_
  refine wpC_region ?_
  refine wpF_run 1 [(4, (.bool false))] (by kernel_rfl) ?_
  refine wpF_end (by kernel_rfl) ?_
  refine then_code ?_
  refine wpC_seq ?_
  refine wpC_region ?_
  refine wpF_run 1 [(14, (.int .u8 ((1 : Nat) : Int)))] (by kernel_rfl) ?_
  refine wpF_step (op_callAt (d := (some 15)) (by kernel_rfl) (c_Slot1 _) ?_)
  rintro _ w1 ⟨rfl, hEw1⟩
  have hzw1 := hEw1.size
  refine wpF_run 5 [(6, (.int .i64 ((0 : Nat) : Int))), (5, (.int .i64 ((0 : Nat) : Int))), (17, (.int .i64 ((0 : Nat) : Int))), (16, (.int .i64 ((0 : Nat) : Int))), (13, (.tuple #[(.int .i64 ((0 : Nat) : Int)), (.int .i64 ((0 : Nat) : Int))]))] (by kernel_rfl) ?_
  refine wpF_end (by kernel_rfl) ?_
  refine then_code ?_
  refine wpC_seq ?_
  refine wpC_region ?_
  refine wpF_run 1 [(19, (.int .i64 ((1 : Nat) : Int)))] (by kernel_rfl) ?_
  refine wpF_step (op_callAt (d := (some 20)) (by kernel_rfl) (c_State1 _) ?_)
  rintro _ w2 ⟨rfl, hEw2⟩
  have hzw2 := hEw2.size
  refine wpF_run 5 [(8, (.int .i64 ((0 : Nat) : Int))), (7, (.int .u8 ((2 : Nat) : Int))), (22, (.int .i64 ((0 : Nat) : Int))), (21, (.int .u8 ((2 : Nat) : Int))), (18, (.tuple #[(.int .u8 ((2 : Nat) : Int)), (.int .i64 ((0 : Nat) : Int))]))] (by kernel_rfl) ?_
  refine wpF_end (by kernel_rfl) ?_
  refine then_code ?_
  refine wpC_seq ?_
  refine wpC_block ?_
  refine wpC_seq ?_
  refine wpC_region ?_
  refine wpF_run 3 [(46, (.bool false)), (48, (.bool false)), (47, (.int .u8 ((1 : Nat) : Int)))] (by kernel_rfl) ?_
  refine wpF_end (by kernel_rfl) ?_
  refine then_code ?_
  refine wpC_false (by kernel_rfl) ?_
  refine wpC_seq ?_
  refine wpC_region ?_
  refine wpF_run 3 [(55, (.bool false)), (57, (.bool false)), (56, (.int .u8 ((1 : Nat) : Int)))] (by kernel_rfl) ?_
  refine wpF_end (by kernel_rfl) ?_
  refine then_code ?_
  refine wpC_false (by kernel_rfl) ?_
  refine wpC_seq ?_
  refine wpC_region ?_
  refine wpF_run 1 [(24, (.int .i64 ((0 : Nat) : Int)))] (by kernel_rfl) ?_
  refine wpF_step (op_callAt (d := (some 25)) (by kernel_rfl) (c_State0 _) ?_)
  rintro _ w3 ⟨rfl, hEw3⟩
  have hzw3 := hEw3.size
  refine wpF_run 5 [(10, (.int .i64 ((0 : Nat) : Int))), (9, (.int .u8 ((1 : Nat) : Int))), (27, (.int .i64 ((0 : Nat) : Int))), (26, (.int .u8 ((1 : Nat) : Int))), (23, (.tuple #[(.int .u8 ((1 : Nat) : Int)), (.int .i64 ((0 : Nat) : Int))]))] (by kernel_rfl) ?_
  refine wpF_end (by kernel_rfl) ?_
  refine then_code ?_
  refine wpC_seq ?_
  refine wpC_region ?_
  refine wpF_run 5 [(32, (.int .u8 ((1 : Nat) : Int))), (31, (.int .i64 ((0 : Nat) : Int))), (30, (.bool false)), (29, (.bool false)), (28, (.int .i64 ((0 : Nat) : Int)))] (by kernel_rfl) ?_
  refine wpF_step (op_eqv (d := (some 33)) (.int .i64 (IntKind.i64.wrap ((1 : Nat) : Int))) (.int .i64 ((1 : Nat) : Int)) (by kernel_rfl) (congrArg (Value.int .i64) (wrapS rfl (by omega) (by omega))) ?_)
  refine wpF_step (op_eqv (d := (some 34)) (.int .i64 (IntKind.i64.wrap (((1 : Nat) : Int) - ((1 : Nat) : Int)))) (.int .i64 ((0 : Nat) : Int)) (by kernel_rfl) (congrArg (Value.int .i64) (wrapS (by omega) (by omega) (by omega))) ?_)
  refine wpF_run 11 [(45, (.bool false)), (44, (.bool false)), (43, (.int .i64 ((0 : Nat) : Int))), (42, (.bool false)), (41, (.bool false)), (40, (.bool false)), (39, (.int .u8 ((1 : Nat) : Int))), (38, (.int .u8 ((1 : Nat) : Int))), (37, (.bool false)), (36, (.bool false)), (35, (.bool false))] (by kernel_rfl) ?_
  refine wpF_end (by kernel_rfl) ?_
  refine then_code ?_
  refine wpC_false (by kernel_rfl) ?_
  refine wpC_skip ?_
  refine inBlock_normal ?_
  refine then_code ?_
  refine wpC_seq ?_
  refine wpC_seq ?_
  refine wpC_region ?_
  refine wpF_run 6 [(69, (.bool false)), (68, (.bool false)), (67, (.int .i64 ((1 : Nat) : Int))), (66, (.bool false)), (65, (.bool false)), (64, (.int .i64 ((1 : Nat) : Int)))] (by kernel_rfl) ?_
  refine wpF_end (by kernel_rfl) ?_
  refine then_code ?_
  refine wpC_false (by kernel_rfl) ?_
  refine wpC_skip ?_
  refine then_code ?_
  refine wpC_seq ?_
  refine wpC_region ?_
  refine wpF_run 1 [(80, (.int .u8 ((2 : Nat) : Int)))] (by kernel_rfl) ?_
  refine wpF_step (op_callAt (d := (some 81)) (by kernel_rfl) (c_Slot2 _) ?_)
  rintro _ w4 ⟨rfl, hEw4⟩
  have hzw4 := hEw4.size
  refine wpF_run 5 [(12, (.int .i64 ((0 : Nat) : Int))), (11, (.int .i64 ((1 : Nat) : Int))), (83, (.int .i64 ((0 : Nat) : Int))), (82, (.int .i64 ((1 : Nat) : Int))), (79, (.tuple #[(.int .i64 ((1 : Nat) : Int)), (.int .i64 ((0 : Nat) : Int))]))] (by kernel_rfl) ?_
  refine wpF_end (by kernel_rfl) ?_
  refine then_code ?_
  refine wpC_seq ?_
  refine wpC_region ?_
  refine wpF_run 12 [(95, (.bool true)), (94, (.bool true)), (93, (.bool true)), (92, (.int .i64 ((0 : Nat) : Int))), (91, (.bool true)), (90, (.bool true)), (89, (.bool true)), (88, (.int .i64 ((1 : Nat) : Int))), (87, (.int .i64 ((1 : Nat) : Int))), (86, (.bool true)), (85, (.bool true)), (84, (.int .i64 ((0 : Nat) : Int)))] (by kernel_rfl) ?_
  refine wpF_step (op_callAt (d := (some 96)) (by kernel_rfl) (c_lives10 _) ?_)
  rintro _ w5 ⟨rfl, hEw5⟩
  have hzw5 := hEw5.size
  refine wpF_run 2 [(4, (.bool true)), (97, (.bool true))] (by kernel_rfl) ?_
  refine wpF_end (by kernel_rfl) ?_
  refine then_code ?_
  refine wpC_ret ?_
  refine body_ret1 (by kernel_rfl) (show resVal Try.prog 98 _ _ (.tmp 4) (.bool true) by (show _ = _; kernel_rfl)) ?_
  exact ⟨rfl, ((((hEw1.trans hEw2).trans hEw3).trans hEw4).trans hEw5)⟩

theorem c_RecordsSlots12 (p : Int)  (w : World) (hp0 : p ≠ 0) (hp1 : p ≠ 1) :
    Calls Try.prog 11 #[(.int .u8 ((1 : Nat) : Int)), (.int .i64 p)] w (Ret fun r w' => r = (.bool true) ∧ Ext w w') := by
  refine calls_of (n := 98) (σ := [(0, (.int .u8 ((1 : Nat) : Int))), (1, (.int .i64 p))]) Try.func11 rfl (by kernel_rfl) ?_
  refine wpC_seq ?_
  refine wpC_region ?_
  refine wpF_run 1 [(4, (.bool false))] (by kernel_rfl) ?_
  refine wpF_end (by kernel_rfl) ?_
  refine then_code ?_
  refine wpC_seq ?_
  refine wpC_region ?_
  refine wpF_run 1 [(14, (.int .u8 ((1 : Nat) : Int)))] (by kernel_rfl) ?_
  refine wpF_step (op_callAt (d := (some 15)) (by kernel_rfl) (c_Slot1 _) ?_)
  rintro _ w1 ⟨rfl, hEw1⟩
  have hzw1 := hEw1.size
  refine wpF_run 5 [(6, (.int .i64 ((0 : Nat) : Int))), (5, (.int .i64 ((0 : Nat) : Int))), (17, (.int .i64 ((0 : Nat) : Int))), (16, (.int .i64 ((0 : Nat) : Int))), (13, (.tuple #[(.int .i64 ((0 : Nat) : Int)), (.int .i64 ((0 : Nat) : Int))]))] (by kernel_rfl) ?_
  refine wpF_end (by kernel_rfl) ?_
  refine then_code ?_
  refine wpC_seq ?_
  refine wpC_region ?_
  refine wpF_run 1 [(19, (.int .i64 p))] (by kernel_rfl) ?_
  refine wpF_step (op_callAt (d := (some 20)) (by kernel_rfl) (c_StateBad p _ (by omega) (by omega)) ?_)
  rintro _ w2 ⟨rfl, hEw2⟩
  have hzw2 := hEw2.size
  refine wpF_run 5 [(8, (.int .i64 ((1 : Nat) : Int))), (7, (.int .u8 ((0 : Nat) : Int))), (22, (.int .i64 ((1 : Nat) : Int))), (21, (.int .u8 ((0 : Nat) : Int))), (18, (.tuple #[(.int .u8 ((0 : Nat) : Int)), (.int .i64 ((1 : Nat) : Int))]))] (by kernel_rfl) ?_
  refine wpF_end (by kernel_rfl) ?_
  refine then_code ?_
  refine wpC_seq ?_
  refine wpC_block ?_
  refine wpC_seq ?_
  refine wpC_region ?_
  refine wpF_run 3 [(46, (.bool false)), (48, (.bool false)), (47, (.int .u8 ((1 : Nat) : Int)))] (by kernel_rfl) ?_
  refine wpF_end (by kernel_rfl) ?_
  refine then_code ?_
  refine wpC_false (by kernel_rfl) ?_
  refine wpC_seq ?_
  refine wpC_region ?_
  refine wpF_run 3 [(55, (.bool false)), (57, (.bool false)), (56, (.int .u8 ((1 : Nat) : Int)))] (by kernel_rfl) ?_
  refine wpF_end (by kernel_rfl) ?_
  refine then_code ?_
  refine wpC_false (by kernel_rfl) ?_
  refine wpC_seq ?_
  refine wpC_region ?_
  refine wpF_run 1 [(24, (.int .i64 ((0 : Nat) : Int)))] (by kernel_rfl) ?_
  refine wpF_step (op_callAt (d := (some 25)) (by kernel_rfl) (c_State0 _) ?_)
  rintro _ w3 ⟨rfl, hEw3⟩
  have hzw3 := hEw3.size
  refine wpF_run 5 [(10, (.int .i64 ((0 : Nat) : Int))), (9, (.int .u8 ((1 : Nat) : Int))), (27, (.int .i64 ((0 : Nat) : Int))), (26, (.int .u8 ((1 : Nat) : Int))), (23, (.tuple #[(.int .u8 ((1 : Nat) : Int)), (.int .i64 ((0 : Nat) : Int))]))] (by kernel_rfl) ?_
  refine wpF_end (by kernel_rfl) ?_
  refine then_code ?_
  refine wpC_seq ?_
  refine wpC_region ?_
  refine wpF_run 5 [(32, (.int .u8 ((1 : Nat) : Int))), (31, (.int .i64 ((0 : Nat) : Int))), (30, (.bool false)), (29, (.bool false)), (28, (.int .i64 ((0 : Nat) : Int)))] (by kernel_rfl) ?_
  refine wpF_step (op_eqv (d := (some 33)) (.int .i64 (IntKind.i64.wrap ((1 : Nat) : Int))) (.int .i64 ((1 : Nat) : Int)) (by kernel_rfl) (congrArg (Value.int .i64) (wrapS rfl (by omega) (by omega))) ?_)
  refine wpF_step (op_eqv (d := (some 34)) (.int .i64 (IntKind.i64.wrap (((1 : Nat) : Int) - ((1 : Nat) : Int)))) (.int .i64 ((0 : Nat) : Int)) (by kernel_rfl) (congrArg (Value.int .i64) (wrapS (by omega) (by omega) (by omega))) ?_)
  refine wpF_run 11 [(45, (.bool false)), (44, (.bool false)), (43, (.int .i64 ((0 : Nat) : Int))), (42, (.bool false)), (41, (.bool false)), (40, (.bool false)), (39, (.int .u8 ((1 : Nat) : Int))), (38, (.int .u8 ((1 : Nat) : Int))), (37, (.bool false)), (36, (.bool false)), (35, (.bool false))] (by kernel_rfl) ?_
  refine wpF_end (by kernel_rfl) ?_
  refine then_code ?_
  refine wpC_false (by kernel_rfl) ?_
  refine wpC_skip ?_
  refine inBlock_normal ?_
  refine then_code ?_
  refine wpC_seq ?_
  refine wpC_seq ?_
  refine wpC_region ?_
  refine wpF_run 1 [(64, (.int .i64 p))] (by kernel_rfl) ?_
  refine wpF_step (op_split (d := (some 65)) (decide (p < ((0 : Nat) : Int))) (by kernel_rfl) (fun hc65 => ?_) (fun hc65 => ?_))
  · replace hc65 : p < ((0 : Nat) : Int) := by have := of_d_t hc65; omega
    refine wpF_run 4 [(69, (.bool true)), (68, undef), (67, undef), (66, (.bool true))] (by kernel_rfl) ?_
    refine wpF_end (by kernel_rfl) ?_
    refine then_code ?_
    refine wpC_true (by kernel_rfl) ?_
    refine wpC_seq ?_
    refine wpC_region ?_
    refine wpF_run 7 [(76, (.bool true)), (75, (.bool true)), (74, (.bool true)), (73, (.int .i64 ((1 : Nat) : Int))), (72, (.bool true)), (71, (.bool true)), (70, (.int .u8 ((0 : Nat) : Int)))] (by kernel_rfl) ?_
    refine wpF_step (op_callAt (d := (some 77)) (by kernel_rfl) (c_lives10 _) ?_)
    rintro _ w4 ⟨rfl, hEw4⟩
    have hzw4 := hEw4.size
    refine wpF_run 2 [(4, (.bool true)), (78, (.bool true))] (by kernel_rfl) ?_
    refine wpF_end (by kernel_rfl) ?_
    refine then_code ?_
    refine wpC_ret ?_
    refine then_ret ?_
    refine body_ret1 (by kernel_rfl) (show resVal Try.prog 98 _ _ (.tmp 4) (.bool true) by (show _ = _; kernel_rfl)) ?_
    exact ⟨rfl, (((hEw1.trans hEw2).trans hEw3).trans hEw4)⟩
  · replace hc65 : ¬ (p < ((0 : Nat) : Int)) := by have := of_d_f hc65; omega
    refine wpF_run 2 [(67, (.int .i64 p)), (66, (.bool false))] (by kernel_rfl) ?_
    refine wpF_step (op_eqv (d := (some 68)) (.bool (decide (p > ((1 : Nat) : Int)))) (.bool true) (by kernel_rfl) (congrArg Value.bool (cmpDT (by omega))) ?_)
    refine wpF_run 1 [(69, (.bool true))] (by kernel_rfl) ?_
    refine wpF_end (by kernel_rfl) ?_
    refine then_code ?_
    refine wpC_true (by kernel_rfl) ?_
    refine wpC_seq ?_
    refine wpC_region ?_
    refine wpF_run 7 [(76, (.bool true)), (75, (.bool true)), (74, (.bool true)), (73, (.int .i64 ((1 : Nat) : Int))), (72, (.bool true)), (71, (.bool true)), (70, (.int .u8 ((0 : Nat) : Int)))] (by kernel_rfl) ?_
    refine wpF_step (op_callAt (d := (some 77)) (by kernel_rfl) (c_lives10 _) ?_)
    rintro _ w5 ⟨rfl, hEw5⟩
    have hzw5 := hEw5.size
    refine wpF_run 2 [(4, (.bool true)), (78, (.bool true))] (by kernel_rfl) ?_
    refine wpF_end (by kernel_rfl) ?_
    refine then_code ?_
    refine wpC_ret ?_
    refine then_ret ?_
    refine body_ret1 (by kernel_rfl) (show resVal Try.prog 98 _ _ (.tmp 4) (.bool true) by (show _ = _; kernel_rfl)) ?_
    exact ⟨rfl, (((hEw1.trans hEw2).trans hEw3).trans hEw5)⟩

theorem c_RecordsSlots20   (w : World)  :
    Calls Try.prog 11 #[(.int .u8 ((2 : Nat) : Int)), (.int .i64 ((0 : Nat) : Int))] w (Ret fun r w' => r = (.bool true) ∧ Ext w w') := by
  refine calls_of (n := 98) (σ := [(0, (.int .u8 ((2 : Nat) : Int))), (1, (.int .i64 ((0 : Nat) : Int)))]) Try.func11 rfl (by kernel_rfl) ?_
  refine wpC_seq ?_
  refine wpC_region ?_
  refine wpF_run 1 [(4, (.bool false))] (by kernel_rfl) ?_
  refine wpF_end (by kernel_rfl) ?_
  refine then_code ?_
  refine wpC_seq ?_
  refine wpC_region ?_
  refine wpF_run 1 [(14, (.int .u8 ((2 : Nat) : Int)))] (by kernel_rfl) ?_
  refine wpF_step (op_callAt (d := (some 15)) (by kernel_rfl) (c_Slot2 _) ?_)
  rintro _ w1 ⟨rfl, hEw1⟩
  have hzw1 := hEw1.size
  refine wpF_run 5 [(6, (.int .i64 ((0 : Nat) : Int))), (5, (.int .i64 ((1 : Nat) : Int))), (17, (.int .i64 ((0 : Nat) : Int))), (16, (.int .i64 ((1 : Nat) : Int))), (13, (.tuple #[(.int .i64 ((1 : Nat) : Int)), (.int .i64 ((0 : Nat) : Int))]))] (by kernel_rfl) ?_
  refine wpF_end (by kernel_rfl) ?_
  refine then_code ?_
  refine wpC_seq ?_
  refine wpC_region ?_
  refine wpF_run 1 [(19, (.int .i64 ((0 : Nat) : Int)))] (by kernel_rfl) ?_
  refine wpF_step (op_callAt (d := (some 20)) (by kernel_rfl) (c_State0 _) ?_)
  rintro _ w2 ⟨rfl, hEw2⟩
  have hzw2 := hEw2.size
  refine wpF_run 5 [(8, (.int .i64 ((0 : Nat) : Int))), (7, (.int .u8 ((1 : Nat) : Int))), (22, (.int .i64 ((0 : Nat) : Int))), (21, (.int .u8 ((1 : Nat) : Int))), (18, (.tuple #[(.int .u8 ((1 : Nat) : Int)), (.int .i64 ((0 : Nat) : Int))]))] (by kernel_rfl) ?_
  refine wpF_end (by kernel_rfl) ?_
  refine then_code ?_
  refine wpC_seq ?_
  refine wpC_block ?_
  refine wpC_seq ?_
  refine wpC_region ?_
  refine wpF_run 3 [(46, (.bool false)), (48, (.bool false)), (47, (.int .u8 ((2 : Nat) : Int)))] (by kernel_rfl) ?_
  refine wpF_end (by kernel_rfl) ?_
  refine then_code ?_
  refine wpC_false (by kernel_rfl) ?_
  refine wpC_seq ?_
  refine wpC_region ?_
  refine wpF_run 3 [(55, (.bool false)), (57, (.bool false)), (56, (.int .u8 ((2 : Nat) : Int)))] (by kernel_rfl) ?_
  refine wpF_end (by kernel_rfl) ?_
  refine then_code ?_
  refine wpC_false (by kernel_rfl) ?_
  refine wpC_seq ?_
  refine wpC_region ?_
  refine wpF_run 1 [(24, (.int .i64 ((1 : Nat) : Int)))] (by kernel_rfl) ?_
  refine wpF_step (op_callAt (d := (some 25)) (by kernel_rfl) (c_State1 _) ?_)
  rintro _ w3 ⟨rfl, hEw3⟩
  have hzw3 := hEw3.size
  refine wpF_run 5 [(10, (.int .i64 ((0 : Nat) : Int))), (9, (.int .u8 ((2 : Nat) : Int))), (27, (.int .i64 ((0 : Nat) : Int))), (26, (.int .u8 ((2 : Nat) : Int))), (23, (.tuple #[(.int .u8 ((2 : Nat) : Int)), (.int .i64 ((0 : Nat) : Int))]))] (by kernel_rfl) ?_
  refine wpF_end (by kernel_rfl) ?_
  refine then_code ?_
  refine wpC_seq ?_
  refine wpC_region ?_
  refine wpF_run 5 [(32, (.int .u8 ((2 : Nat) : Int))), (31, (.int .i64 ((1 : Nat) : Int))), (30, (.bool false)), (29, (.bool false)), (28, (.int .i64 ((0 : Nat) : Int)))] (by kernel_rfl) ?_
  refine wpF_step (op_eqv (d := (some 33)) (.int .i64 (IntKind.i64.wrap ((2 : Nat) : Int))) (.int .i64 ((2 : Nat) : Int)) (by kernel_rfl) (congrArg (Value.int .i64) (wrapS rfl (by omega) (by omega))) ?_)
  refine wpF_step (op_eqv (d := (some 34)) (.int .i64 (IntKind.i64.wrap (((2 : Nat) : Int) - ((1 : Nat) : Int)))) (.int .i64 ((1 : Nat) : Int)) (by kernel_rfl) (congrArg (Value.int .i64) (wrapS (by omega) (by omega) (by omega))) ?_)
  refine wpF_run 11 [(45, (.bool false)), (44, (.bool false)), (43, (.int .i64 ((0 : Nat) : Int))), (42, (.bool false)), (41, (.bool false)), (40, (.bool false)), (39, (.int .u8 ((2 : Nat) : Int))), (38, (.int .u8 ((2 : Nat) : Int))), (37, (.bool false)), (36, (.bool false)), (35, (.bool false))] (by kernel_rfl) ?_
  refine wpF_end (by kernel_rfl) ?_
  refine then_code ?_
  refine wpC_false (by kernel_rfl) ?_
  refine wpC_skip ?_
  refine inBlock_normal ?_
  refine then_code ?_
  refine wpC_seq ?_
  refine wpC_seq ?_
  refine wpC_region ?_
  refine wpF_run 6 [(69, (.bool false)), (68, (.bool false)), (67, (.int .i64 ((0 : Nat) : Int))), (66, (.bool false)), (65, (.bool false)), (64, (.int .i64 ((0 : Nat) : Int)))] (by kernel_rfl) ?_
  refine wpF_end (by kernel_rfl) ?_
  refine then_code ?_
  refine wpC_false (by kernel_rfl) ?_
  refine wpC_skip ?_
  refine then_code ?_
  refine wpC_seq ?_
  refine wpC_region ?_
  refine wpF_run 1 [(80, (.int .u8 ((1 : Nat) : Int)))] (by kernel_rfl) ?_
  refine wpF_step (op_callAt (d := (some 81)) (by kernel_rfl) (c_Slot1 _) ?_)
  rintro _ w4 ⟨rfl, hEw4⟩
  have hzw4 := hEw4.size
  refine wpF_run 5 [(12, (.int .i64 ((0 : Nat) : Int))), (11, (.int .i64 ((0 : Nat) : Int))), (83, (.int .i64 ((0 : Nat) : Int))), (82, (.int .i64 ((0 : Nat) : Int))), (79, (.tuple #[(.int .i64 ((0 : Nat) : Int)), (.int .i64 ((0 : Nat) : Int))]))] (by kernel_rfl) ?_
  refine wpF_end (by kernel_rfl) ?_
  refine then_code ?_
  refine wpC_seq ?_
  refine wpC_region ?_
  refine wpF_run 12 [(95, (.bool true)), (94, (.bool true)), (93, (.bool true)), (92, (.int .i64 ((0 : Nat) : Int))), (91, (.bool true)), (90, (.bool true)), (89, (.bool true)), (88, (.int .i64 ((0 : Nat) : Int))), (87, (.int .i64 ((0 : Nat) : Int))), (86, (.bool true)), (85, (.bool true)), (84, (.int .i64 ((0 : Nat) : Int)))] (by kernel_rfl) ?_
  refine wpF_step (op_callAt (d := (some 96)) (by kernel_rfl) (c_lives10 _) ?_)
  rintro _ w5 ⟨rfl, hEw5⟩
  have hzw5 := hEw5.size
  refine wpF_run 2 [(4, (.bool true)), (97, (.bool true))] (by kernel_rfl) ?_
  refine wpF_end (by kernel_rfl) ?_
  refine then_code ?_
  refine wpC_ret ?_
  refine body_ret1 (by kernel_rfl) (show resVal Try.prog 98 _ _ (.tmp 4) (.bool true) by (show _ = _; kernel_rfl)) ?_
  exact ⟨rfl, ((((hEw1.trans hEw2).trans hEw3).trans hEw4).trans hEw5)⟩

theorem c_RecordsSlots21   (w : World)  :
    Calls Try.prog 11 #[(.int .u8 ((2 : Nat) : Int)), (.int .i64 ((1 : Nat) : Int))] w (Ret fun r w' => r = (.bool true) ∧ Ext w w') := by
  refine calls_of (n := 98) (σ := [(0, (.int .u8 ((2 : Nat) : Int))), (1, (.int .i64 ((1 : Nat) : Int)))]) Try.func11 rfl (by kernel_rfl) ?_
  refine wpC_seq ?_
  refine wpC_region ?_
  refine wpF_run 1 [(4, (.bool false))] (by kernel_rfl) ?_
  refine wpF_end (by kernel_rfl) ?_
  refine then_code ?_
  refine wpC_seq ?_
  refine wpC_region ?_
  refine wpF_run 1 [(14, (.int .u8 ((2 : Nat) : Int)))] (by kernel_rfl) ?_
  refine wpF_step (op_callAt (d := (some 15)) (by kernel_rfl) (c_Slot2 _) ?_)
  rintro _ w1 ⟨rfl, hEw1⟩
  have hzw1 := hEw1.size
  refine wpF_run 5 [(6, (.int .i64 ((0 : Nat) : Int))), (5, (.int .i64 ((1 : Nat) : Int))), (17, (.int .i64 ((0 : Nat) : Int))), (16, (.int .i64 ((1 : Nat) : Int))), (13, (.tuple #[(.int .i64 ((1 : Nat) : Int)), (.int .i64 ((0 : Nat) : Int))]))] (by kernel_rfl) ?_
  refine wpF_end (by kernel_rfl) ?_
  refine then_code ?_
  refine wpC_seq ?_
  refine wpC_region ?_
  refine wpF_run 1 [(19, (.int .i64 ((1 : Nat) : Int)))] (by kernel_rfl) ?_
  refine wpF_step (op_callAt (d := (some 20)) (by kernel_rfl) (c_State1 _) ?_)
  rintro _ w2 ⟨rfl, hEw2⟩
  have hzw2 := hEw2.size
  refine wpF_run 5 [(8, (.int .i64 ((0 : Nat) : Int))), (7, (.int .u8 ((2 : Nat) : Int))), (22, (.int .i64 ((0 : Nat) : Int))), (21, (.int .u8 ((2 : Nat) : Int))), (18, (.tuple #[(.int .u8 ((2 : Nat) : Int)), (.int .i64 ((0 : Nat) : Int))]))] (by kernel_rfl) ?_
  refine wpF_end (by kernel_rfl) ?_
  refine then_code ?_
  refine wpC_seq ?_
  refine wpC_block ?_
  refine wpC_seq ?_
  refine wpC_region ?_
  refine wpF_run 3 [(46, (.bool false)), (48, (.bool false)), (47, (.int .u8 ((2 : Nat) : Int)))] (by kernel_rfl) ?_
  refine wpF_end (by kernel_rfl) ?_
  refine then_code ?_
  refine wpC_false (by kernel_rfl) ?_
  refine wpC_seq ?_
  refine wpC_region ?_
  refine wpF_run 3 [(55, (.bool false)), (57, (.bool false)), (56, (.int .u8 ((2 : Nat) : Int)))] (by kernel_rfl) ?_
  refine wpF_end (by kernel_rfl) ?_
  refine then_code ?_
  refine wpC_false (by kernel_rfl) ?_
  refine wpC_seq ?_
  refine wpC_region ?_
  refine wpF_run 1 [(24, (.int .i64 ((1 : Nat) : Int)))] (by kernel_rfl) ?_
  refine wpF_step (op_callAt (d := (some 25)) (by kernel_rfl) (c_State1 _) ?_)
  rintro _ w3 ⟨rfl, hEw3⟩
  have hzw3 := hEw3.size
  refine wpF_run 5 [(10, (.int .i64 ((0 : Nat) : Int))), (9, (.int .u8 ((2 : Nat) : Int))), (27, (.int .i64 ((0 : Nat) : Int))), (26, (.int .u8 ((2 : Nat) : Int))), (23, (.tuple #[(.int .u8 ((2 : Nat) : Int)), (.int .i64 ((0 : Nat) : Int))]))] (by kernel_rfl) ?_
  refine wpF_end (by kernel_rfl) ?_
  refine then_code ?_
  refine wpC_seq ?_
  refine wpC_region ?_
  refine wpF_run 5 [(32, (.int .u8 ((2 : Nat) : Int))), (31, (.int .i64 ((1 : Nat) : Int))), (30, (.bool false)), (29, (.bool false)), (28, (.int .i64 ((0 : Nat) : Int)))] (by kernel_rfl) ?_
  refine wpF_step (op_eqv (d := (some 33)) (.int .i64 (IntKind.i64.wrap ((2 : Nat) : Int))) (.int .i64 ((2 : Nat) : Int)) (by kernel_rfl) (congrArg (Value.int .i64) (wrapS rfl (by omega) (by omega))) ?_)
  refine wpF_step (op_eqv (d := (some 34)) (.int .i64 (IntKind.i64.wrap (((2 : Nat) : Int) - ((1 : Nat) : Int)))) (.int .i64 ((1 : Nat) : Int)) (by kernel_rfl) (congrArg (Value.int .i64) (wrapS (by omega) (by omega) (by omega))) ?_)
  refine wpF_run 11 [(45, (.bool false)), (44, (.bool false)), (43, (.int .i64 ((0 : Nat) : Int))), (42, (.bool false)), (41, (.bool false)), (40, (.bool false)), (39, (.int .u8 ((2 : Nat) : Int))), (38, (.int .u8 ((2 : Nat) : Int))), (37, (.bool false)), (36, (.bool false)), (35, (.bool false))] (by kernel_rfl) ?_
  refine wpF_end (by kernel_rfl) ?_
  refine then_code ?_
  refine wpC_false (by kernel_rfl) ?_
  refine wpC_skip ?_
  refine inBlock_normal ?_
  refine then_code ?_
  refine wpC_seq ?_
  refine wpC_seq ?_
  refine wpC_region ?_
  refine wpF_run 6 [(69, (.bool false)), (68, (.bool false)), (67, (.int .i64 ((1 : Nat) : Int))), (66, (.bool false)), (65, (.bool false)), (64, (.int .i64 ((1 : Nat) : Int)))] (by kernel_rfl) ?_
  refine wpF_end (by kernel_rfl) ?_
  refine then_code ?_
  refine wpC_false (by kernel_rfl) ?_
  refine wpC_skip ?_
  refine then_code ?_
  refine wpC_seq ?_
  refine wpC_region ?_
  refine wpF_run 1 [(80, (.int .u8 ((2 : Nat) : Int)))] (by kernel_rfl) ?_
  refine wpF_step (op_callAt (d := (some 81)) (by kernel_rfl) (c_Slot2 _) ?_)
  rintro _ w4 ⟨rfl, hEw4⟩
  have hzw4 := hEw4.size
  refine wpF_run 5 [(12, (.int .i64 ((0 : Nat) : Int))), (11, (.int .i64 ((1 : Nat) : Int))), (83, (.int .i64 ((0 : Nat) : Int))), (82, (.int .i64 ((1 : Nat) : Int))), (79, (.tuple #[(.int .i64 ((1 : Nat) : Int)), (.int .i64 ((0 : Nat) : Int))]))] (by kernel_rfl) ?_
  refine wpF_end (by kernel_rfl) ?_
  refine then_code ?_
  refine wpC_seq ?_
  refine wpC_region ?_
  refine wpF_run 12 [(95, (.bool true)), (94, (.bool true)), (93, (.bool true)), (92, (.int .i64 ((0 : Nat) : Int))), (91, (.bool true)), (90, (.bool true)), (89, (.bool true)), (88, (.int .i64 ((1 : Nat) : Int))), (87, (.int .i64 ((1 : Nat) : Int))), (86, (.bool true)), (85, (.bool true)), (84, (.int .i64 ((0 : Nat) : Int)))] (by kernel_rfl) ?_
  refine wpF_step (op_callAt (d := (some 96)) (by kernel_rfl) (c_lives10 _) ?_)
  rintro _ w5 ⟨rfl, hEw5⟩
  have hzw5 := hEw5.size
  refine wpF_run 2 [(4, (.bool true)), (97, (.bool true))] (by kernel_rfl) ?_
  refine wpF_end (by kernel_rfl) ?_
  refine then_code ?_
  refine wpC_ret ?_
  refine body_ret1 (by kernel_rfl) (show resVal Try.prog 98 _ _ (.tmp 4) (.bool true) by (show _ = _; kernel_rfl)) ?_
  exact ⟨rfl, ((((hEw1.trans hEw2).trans hEw3).trans hEw4).trans hEw5)⟩

theorem c_RecordsSlots22 (p : Int)  (w : World) (hp0 : p ≠ 0) (hp1 : p ≠ 1) :
    Calls Try.prog 11 #[(.int .u8 ((2 : Nat) : Int)), (.int .i64 p)] w (Ret fun r w' => r = (.bool true) ∧ Ext w w') := by
  refine calls_of (n := 98) (σ := [(0, (.int .u8 ((2 : Nat) : Int))), (1, (.int .i64 p))]) Try.func11 rfl (by kernel_rfl) ?_
  refine wpC_seq ?_
  refine wpC_region ?_
  refine wpF_run 1 [(4, (.bool false))] (by kernel_rfl) ?_
  refine wpF_end (by kernel_rfl) ?_
  refine then_code ?_
  refine wpC_seq ?_
  refine wpC_region ?_
  refine wpF_run 1 [(14, (.int .u8 ((2 : Nat) : Int)))] (by kernel_rfl) ?_
  refine wpF_step (op_callAt (d := (some 15)) (by kernel_rfl) (c_Slot2 _) ?_)
  rintro _ w1 ⟨rfl, hEw1⟩
  have hzw1 := hEw1.size
  refine wpF_run 5 [(6, (.int .i64 ((0 : Nat) : Int))), (5, (.int .i64 ((1 : Nat) : Int))), (17, (.int .i64 ((0 : Nat) : Int))), (16, (.int .i64 ((1 : Nat) : Int))), (13, (.tuple #[(.int .i64 ((1 : Nat) : Int)), (.int .i64 ((0 : Nat) : Int))]))] (by kernel_rfl) ?_
  refine wpF_end (by kernel_rfl) ?_
  refine then_code ?_
  refine wpC_seq ?_
  refine wpC_region ?_
  refine wpF_run 1 [(19, (.int .i64 p))] (by kernel_rfl) ?_
  refine wpF_step (op_callAt (d := (some 20)) (by kernel_rfl) (c_StateBad p _ (by omega) (by omega)) ?_)
  rintro _ w2 ⟨rfl, hEw2⟩
  have hzw2 := hEw2.size
  refine wpF_run 5 [(8, (.int .i64 ((1 : Nat) : Int))), (7, (.int .u8 ((0 : Nat) : Int))), (22, (.int .i64 ((1 : Nat) : Int))), (21, (.int .u8 ((0 : Nat) : Int))), (18, (.tuple #[(.int .u8 ((0 : Nat) : Int)), (.int .i64 ((1 : Nat) : Int))]))] (by kernel_rfl) ?_
  refine wpF_end (by kernel_rfl) ?_
  refine then_code ?_
  refine wpC_seq ?_
  refine wpC_block ?_
  refine wpC_seq ?_
  refine wpC_region ?_
  refine wpF_run 3 [(46, (.bool false)), (48, (.bool false)), (47, (.int .u8 ((2 : Nat) : Int)))] (by kernel_rfl) ?_
  refine wpF_end (by kernel_rfl) ?_
  refine then_code ?_
  refine wpC_false (by kernel_rfl) ?_
  refine wpC_seq ?_
  refine wpC_region ?_
  refine wpF_run 3 [(55, (.bool false)), (57, (.bool false)), (56, (.int .u8 ((2 : Nat) : Int)))] (by kernel_rfl) ?_
  refine wpF_end (by kernel_rfl) ?_
  refine then_code ?_
  refine wpC_false (by kernel_rfl) ?_
  refine wpC_seq ?_
  refine wpC_region ?_
  refine wpF_run 1 [(24, (.int .i64 ((1 : Nat) : Int)))] (by kernel_rfl) ?_
  refine wpF_step (op_callAt (d := (some 25)) (by kernel_rfl) (c_State1 _) ?_)
  rintro _ w3 ⟨rfl, hEw3⟩
  have hzw3 := hEw3.size
  refine wpF_run 5 [(10, (.int .i64 ((0 : Nat) : Int))), (9, (.int .u8 ((2 : Nat) : Int))), (27, (.int .i64 ((0 : Nat) : Int))), (26, (.int .u8 ((2 : Nat) : Int))), (23, (.tuple #[(.int .u8 ((2 : Nat) : Int)), (.int .i64 ((0 : Nat) : Int))]))] (by kernel_rfl) ?_
  refine wpF_end (by kernel_rfl) ?_
  refine then_code ?_
  refine wpC_seq ?_
  refine wpC_region ?_
  refine wpF_run 5 [(32, (.int .u8 ((2 : Nat) : Int))), (31, (.int .i64 ((1 : Nat) : Int))), (30, (.bool false)), (29, (.bool false)), (28, (.int .i64 ((0 : Nat) : Int)))] (by kernel_rfl) ?_
  refine wpF_step (op_eqv (d := (some 33)) (.int .i64 (IntKind.i64.wrap ((2 : Nat) : Int))) (.int .i64 ((2 : Nat) : Int)) (by kernel_rfl) (congrArg (Value.int .i64) (wrapS rfl (by omega) (by omega))) ?_)
  refine wpF_step (op_eqv (d := (some 34)) (.int .i64 (IntKind.i64.wrap (((2 : Nat) : Int) - ((1 : Nat) : Int)))) (.int .i64 ((1 : Nat) : Int)) (by kernel_rfl) (congrArg (Value.int .i64) (wrapS (by omega) (by omega) (by omega))) ?_)
  refine wpF_run 11 [(45, (.bool false)), (44, (.bool false)), (43, (.int .i64 ((0 : Nat) : Int))), (42, (.bool false)), (41, (.bool false)), (40, (.bool false)), (39, (.int .u8 ((2 : Nat) : Int))), (38, (.int .u8 ((2 : Nat) : Int))), (37, (.bool false)), (36, (.bool false)), (35, (.bool false))] (by kernel_rfl) ?_
  refine wpF_end (by kernel_rfl) ?_
  refine then_code ?_
  refine wpC_false (by kernel_rfl) ?_
  refine wpC_skip ?_
  refine inBlock_normal ?_
  refine then_code ?_
  refine wpC_seq ?_
  refine wpC_seq ?_
  refine wpC_region ?_
  refine wpF_run 1 [(64, (.int .i64 p))] (by kernel_rfl) ?_
  refine wpF_step (op_split (d := (some 65)) (decide (p < ((0 : Nat) : Int))) (by kernel_rfl) (fun hc65 => ?_) (fun hc65 => ?_))
  · replace hc65 : p < ((0 : Nat) : Int) := by have := of_d_t hc65; omega
    refine wpF_run 4 [(69, (.bool true)), (68, undef), (67, undef), (66, (.bool true))] (by kernel_rfl) ?_
    refine wpF_end (by kernel_rfl) ?_
    refine then_code ?_
    refine wpC_true (by kernel_rfl) ?_
    refine wpC_seq ?_
    refine wpC_region ?_
    refine wpF_run 7 [(76, (.bool true)), (75, (.bool true)), (74, (.bool true)), (73, (.int .i64 ((1 : Nat) : Int))), (72, (.bool true)), (71, (.bool true)), (70, (.int .u8 ((0 : Nat) : Int)))] (by kernel_rfl) ?_
    refine wpF_step (op_callAt (d := (some 77)) (by kernel_rfl) (c_lives10 _) ?_)
    rintro _ w4 ⟨rfl, hEw4⟩
    have hzw4 := hEw4.size
    refine wpF_run 2 [(4, (.bool true)), (78, (.bool true))] (by kernel_rfl) ?_
    refine wpF_end (by kernel_rfl) ?_
    refine then_code ?_
    refine wpC_ret ?_
    refine then_ret ?_
    refine body_ret1 (by kernel_rfl) (show resVal Try.prog 98 _ _ (.tmp 4) (.bool true) by (show _ = _; kernel_rfl)) ?_
    exact ⟨rfl, (((hEw1.trans hEw2).trans hEw3).trans hEw4)⟩
  · replace hc65 : ¬ (p < ((0 : Nat) : Int)) := by have := of_d_f hc65; omega
    refine wpF_run 2 [(67, (.int .i64 p)), (66, (.bool false))] (by kernel_rfl) ?_
    refine wpF_step (op_eqv (d := (some 68)) (.bool (decide (p > ((1 : Nat) : Int)))) (.bool true) (by kernel_rfl) (congrArg Value.bool (cmpDT (by omega))) ?_)
    refine wpF_run 1 [(69, (.bool true))] (by kernel_rfl) ?_
    refine wpF_end (by kernel_rfl) ?_
    refine then_code ?_
    refine wpC_true (by kernel_rfl) ?_
    refine wpC_seq ?_
    refine wpC_region ?_
    refine wpF_run 7 [(76, (.bool true)), (75, (.bool true)), (74, (.bool true)), (73, (.int .i64 ((1 : Nat) : Int))), (72, (.bool true)), (71, (.bool true)), (70, (.int .u8 ((0 : Nat) : Int)))] (by kernel_rfl) ?_
    refine wpF_step (op_callAt (d := (some 77)) (by kernel_rfl) (c_lives10 _) ?_)
    rintro _ w5 ⟨rfl, hEw5⟩
    have hzw5 := hEw5.size
    refine wpF_run 2 [(4, (.bool true)), (78, (.bool true))] (by kernel_rfl) ?_
    refine wpF_end (by kernel_rfl) ?_
    refine then_code ?_
    refine wpC_ret ?_
    refine then_ret ?_
    refine body_ret1 (by kernel_rfl) (show resVal Try.prog 98 _ _ (.tmp 4) (.bool true) by (show _ = _; kernel_rfl)) ?_
    exact ⟨rfl, (((hEw1.trans hEw2).trans hEw3).trans hEw5)⟩

theorem c_RecordsSlots30 (s : Nat)  (w : World) (hp0 : 2 < s) :
    Calls Try.prog 11 #[(.int .u8 ((s : Nat) : Int)), (.int .i64 ((0 : Nat) : Int))] w (Ret fun r w' => r = (.bool true) ∧ Ext w w') := by
  refine calls_of (n := 98) (σ := [(0, (.int .u8 ((s : Nat) : Int))), (1, (.int .i64 ((0 : Nat) : Int)))]) Try.func11 rfl (by kernel_rfl) ?_
  refine wpC_seq ?_
  refine wpC_region ?_
  refine wpF_run 1 [(4, (.bool false))] (by kernel_rfl) ?_
  refine wpF_end (by kernel_rfl) ?_
  refine then_code ?_
  refine wpC_seq ?_
  refine wpC_region ?_
  refine wpF_run 1 [(14, (.int .u8 ((s : Nat) : Int)))] (by kernel_rfl) ?_
  refine wpF_step (op_callAt (d := (some 15)) (by kernel_rfl) (c_SlotBad s _ (by omega)) ?_)
  rintro _ w1 ⟨rfl, hEw1⟩
  have hzw1 := hEw1.size
  refine wpF_run 5 [(6, (.int .i64 ((1 : Nat) : Int))), (5, (.int .i64 ((0 : Nat) : Int))), (17, (.int .i64 ((1 : Nat) : Int))), (16, (.int .i64 ((0 : Nat) : Int))), (13, (.tuple #[(.int .i64 ((0 : Nat) : Int)), (.int .i64 ((1 : Nat) : Int))]))] (by kernel_rfl) ?_
  refine wpF_end (by kernel_rfl) ?_
  refine then_code ?_
  refine wpC_seq ?_
  refine wpC_region ?_
  refine wpF_run 1 [(19, (.int .i64 ((0 : Nat) : Int)))] (by kernel_rfl) ?_
  refine wpF_step (op_callAt (d := (some 20)) (by kernel_rfl) (c_State0 _) ?_)
  rintro _ w2 ⟨rfl, hEw2⟩
  have hzw2 := hEw2.size
  refine wpF_run 5 [(8, (.int .i64 ((0 : Nat) : Int))), (7, (.int .u8 ((1 : Nat) : Int))), (22, (.int .i64 ((0 : Nat) : Int))), (21, (.int .u8 ((1 : Nat) : Int))), (18, (.tuple #[(.int .u8 ((1 : Nat) : Int)), (.int .i64 ((0 : Nat) : Int))]))] (by kernel_rfl) ?_
  refine wpF_end (by kernel_rfl) ?_
  refine then_code ?_
  refine wpC_seq ?_
  refine wpC_block ?_
  refine wpC_seq ?_
  refine wpC_region ?_
  refine wpF_run 1 [(47, (.int .u8 ((s : Nat) : Int)))] (by kernel_rfl) ?_
  refine wpF_step (op_eqv (d := (some 48)) (.bool ((((s : Nat) : Int) == ((0 : Nat) : Int)))) (.bool false) (by kernel_rfl) (congrArg Value.bool (cmpEqF (by omega))) ?_)
  refine wpF_run 1 [(46, (.bool false))] (by kernel_rfl) ?_
  refine wpF_end (by kernel_rfl) ?_
  refine then_code ?_
  refine wpC_false (by kernel_rfl) ?_
  refine wpC_seq ?_
  refine wpC_region ?_
  refine wpF_run 1 [(56, (.int .u8 ((s : Nat) : Int)))] (by kernel_rfl) ?_
  refine wpF_step (op_eqv (d := (some 57)) (.bool (decide (((s : Nat) : Int) > ((2 : Nat) : Int)))) (.bool true) (by kernel_rfl) (congrArg Value.bool (cmpDT (by omega))) ?_)
  refine wpF_run 1 [(55, (.bool true))] (by kernel_rfl) ?_
  refine wpF_end (by kernel_rfl) ?_
  refine then_code ?_
  refine wpC_true (by kernel_rfl) ?_
  refine wpC_seq ?_
  refine wpC_region ?_
  refine wpF_run 6 [(63, (.bool false)), (62, (.bool false)), (61, (.int .i64 ((1 : Nat) : Int))), (60, (.bool false)), (59, (.bool false)), (58, (.int .i64 ((0 : Nat) : Int)))] (by kernel_rfl) ?_
  refine wpF_end (by kernel_rfl) ?_
  refine then_code ?_
  refine wpC_false (by kernel_rfl) ?_
  refine wpC_skip ?_
  refine inBlock_normal ?_
  refine then_code ?_
  refine wpC_seq ?_
  refine wpC_seq ?_
  refine wpC_region ?_
  refine wpF_run 6 [(69, (.bool false)), (68, (.bool false)), (67, (.int .i64 ((0 : Nat) : Int))), (66, (.bool false)), (65, (.bool false)), (64, (.int .i64 ((0 : Nat) : Int)))] (by kernel_rfl) ?_
  refine wpF_end (by kernel_rfl) ?_
  refine then_code ?_
  refine wpC_false (by kernel_rfl) ?_
  refine wpC_skip ?_
  refine then_code ?_
  refine wpC_seq ?_
  refine wpC_region ?_
  refine wpF_run 1 [(80, (.int .u8 ((1 : Nat) : Int)))] (by kernel_rfl) ?_
  refine wpF_step (op_callAt (d := (some 81)) (by kernel_rfl) (c_Slot1 _) ?_)
  rintro _ w3 ⟨rfl, hEw3⟩
  have hzw3 := hEw3.size
  refine wpF_run 5 [(12, (.int .i64 ((0 : Nat) : Int))), (11, (.int .i64 ((0 : Nat) : Int))), (83, (.int .i64 ((0 : Nat) : Int))), (82, (.int .i64 ((0 : Nat) : Int))), (79, (.tuple #[(.int .i64 ((0 : Nat) : Int)), (.int .i64 ((0 : Nat) : Int))]))] (by kernel_rfl) ?_
  refine wpF_end (by kernel_rfl) ?_
  refine then_code ?_
  refine wpC_seq ?_
  refine wpC_region ?_
  refine wpF_run 12 [(95, (.bool true)), (94, (.bool true)), (93, (.bool true)), (92, (.int .i64 ((0 : Nat) : Int))), (91, (.bool true)), (90, (.bool true)), (89, (.bool true)), (88, (.int .i64 ((0 : Nat) : Int))), (87, (.int .i64 ((0 : Nat) : Int))), (86, (.bool true)), (85, (.bool true)), (84, (.int .i64 ((0 : Nat) : Int)))] (by kernel_rfl) ?_
  refine wpF_step (op_callAt (d := (some 96)) (by kernel_rfl) (c_lives10 _) ?_)
  rintro _ w4 ⟨rfl, hEw4⟩
  have hzw4 := hEw4.size
  refine wpF_run 2 [(4, (.bool true)), (97, (.bool true))] (by kernel_rfl) ?_
  refine wpF_end (by kernel_rfl) ?_
  refine then_code ?_
  refine wpC_ret ?_
  refine body_ret1 (by kernel_rfl) (show resVal Try.prog 98 _ _ (.tmp 4) (.bool true) by (show _ = _; kernel_rfl)) ?_
  exact ⟨rfl, (((hEw1.trans hEw2).trans hEw3).trans hEw4)⟩

theorem c_RecordsSlots31 (s : Nat)  (w : World) (hp0 : 2 < s) :
    Calls Try.prog 11 #[(.int .u8 ((s : Nat) : Int)), (.int .i64 ((1 : Nat) : Int))] w (Ret fun r w' => r = (.bool true) ∧ Ext w w') := by
  refine calls_of (n := 98) (σ := [(0, (.int .u8 ((s : Nat) : Int))), (1, (.int .i64 ((1 : Nat) : Int)))]) Try.func11 rfl (by kernel_rfl) ?_
  refine wpC_seq ?_
  refine wpC_region ?_
  refine wpF_run 1 [(4, (.bool false))] (by kernel_rfl) ?_
  refine wpF_end (by kernel_rfl) ?_
  refine then_code ?_
  refine wpC_seq ?_
  refine wpC_region ?_
  refine wpF_run 1 [(14, (.int .u8 ((s : Nat) : Int)))] (by kernel_rfl) ?_
  refine wpF_step (op_callAt (d := (some 15)) (by kernel_rfl) (c_SlotBad s _ (by omega)) ?_)
  rintro _ w1 ⟨rfl, hEw1⟩
  have hzw1 := hEw1.size
  refine wpF_run 5 [(6, (.int .i64 ((1 : Nat) : Int))), (5, (.int .i64 ((0 : Nat) : Int))), (17, (.int .i64 ((1 : Nat) : Int))), (16, (.int .i64 ((0 : Nat) : Int))), (13, (.tuple #[(.int .i64 ((0 : Nat) : Int)), (.int .i64 ((1 : Nat) : Int))]))] (by kernel_rfl) ?_
  refine wpF_end (by kernel_rfl) ?_
  refine then_code ?_
  refine wpC_seq ?_
  refine wpC_region ?_
  refine wpF_run 1 [(19, (.int .i64 ((1 : Nat) : Int)))] (by kernel_rfl) ?_
  refine wpF_step (op_callAt (d := (some 20)) (by kernel_rfl) (c_State1 _) ?_)
  rintro _ w2 ⟨rfl, hEw2⟩
  have hzw2 := hEw2.size
  refine wpF_run 5 [(8, (.int .i64 ((0 : Nat) : Int))), (7, (.int .u8 ((2 : Nat) : Int))), (22, (.int .i64 ((0 : Nat) : Int))), (21, (.int .u8 ((2 : Nat) : Int))), (18, (.tuple #[(.int .u8 ((2 : Nat) : Int)), (.int .i64 ((0 : Nat) : Int))]))] (by kernel_rfl) ?_
  refine wpF_end (by kernel_rfl) ?_
  refine then_code ?_
  refine wpC_seq ?_
  refine wpC_block ?_
  refine wpC_seq ?_
  refine wpC_region ?_
  refine wpF_run 1 [(47, (.int .u8 ((s : Nat) : Int)))] (by kernel_rfl) ?_
  refine wpF_step (op_eqv (d := (some 48)) (.bool ((((s : Nat) : Int) == ((0 : Nat) : Int)))) (.bool false) (by kernel_rfl) (congrArg Value.bool (cmpEqF (by omega))) ?_)
  refine wpF_run 1 [(46, (.bool false))] (by kernel_rfl) ?_
  refine wpF_end (by kernel_rfl) ?_
  refine then_code ?_
  refine wpC_false (by kernel_rfl) ?_
  refine wpC_seq ?_
  refine wpC_region ?_
  refine wpF_run 1 [(56, (.int .u8 ((s : Nat) : Int)))] (by kernel_rfl) ?_
  refine wpF_step (op_eqv (d := (some 57)) (.bool (decide (((s : Nat) : Int) > ((2 : Nat) : Int)))) (.bool true) (by kernel_rfl) (congrArg Value.bool (cmpDT (by omega))) ?_)
  refine wpF_run 1 [(55, (.bool true))] (by kernel_rfl) ?_
  refine wpF_end (by kernel_rfl) ?_
  refine then_code ?_
  refine wpC_true (by kernel_rfl) ?_
  refine wpC_seq ?_
  refine wpC_region ?_
  refine wpF_run 6 [(63, (.bool false)), (62, (.bool false)), (61, (.int .i64 ((1 : Nat) : Int))), (60, (.bool false)), (59, (.bool false)), (58, (.int .i64 ((0 : Nat) : Int)))] (by kernel_rfl) ?_
  refine wpF_end (by kernel_rfl) ?_
  refine then_code ?_
  refine wpC_false (by kernel_rfl) ?_
  refine wpC_skip ?_
  refine inBlock_normal ?_
  refine then_code ?_
  refine wpC_seq ?_
  refine wpC_seq ?_
  refine wpC_region ?_
  refine wpF_run 6 [(69, (.bool false)), (68, (.bool false)), (67, (.int .i64 ((1 : Nat) : Int))), (66, (.bool false)), (65, (.bool false)), (64, (.int .i64 ((1 : Nat) : Int)))] (by kernel_rfl) ?_
  refine wpF_end (by kernel_rfl) ?_
  refine then_code ?_
  refine wpC_false (by kernel_rfl) ?_
  refine wpC_skip ?_
  refine then_code ?_
  refine wpC_seq ?_
  refine wpC_region ?_
  refine wpF_run 1 [(80, (.int .u8 ((2 : Nat) : Int)))] (by kernel_rfl) ?_
  refine wpF_step (op_callAt (d := (some 81)) (by kernel_rfl) (c_Slot2 _) ?_)
  rintro _ w3 ⟨rfl, hEw3⟩
  have hzw3 := hEw3.size
  refine wpF_run 5 [(12, (.int .i64 ((0 : Nat) : Int))), (11, (.int .i64 ((1 : Nat) : Int))), (83, (.int .i64 ((0 : Nat) : Int))), (82, (.int .i64 ((1 : Nat) : Int))), (79, (.tuple #[(.int .i64 ((1 : Nat) : Int)), (.int .i64 ((0 : Nat) : Int))]))] (by kernel_rfl) ?_
  refine wpF_end (by kernel_rfl) ?_
  refine then_code ?_
  refine wpC_seq ?_
  refine wpC_region ?_
  refine wpF_run 12 [(95, (.bool true)), (94, (.bool true)), (93, (.bool true)), (92, (.int .i64 ((0 : Nat) : Int))), (91, (.bool true)), (90, (.bool true)), (89, (.bool true)), (88, (.int .i64 ((1 : Nat) : Int))), (87, (.int .i64 ((1 : Nat) : Int))), (86, (.bool true)), (85, (.bool true)), (84, (.int .i64 ((0 : Nat) : Int)))] (by kernel_rfl) ?_
  refine wpF_step (op_callAt (d := (some 96)) (by kernel_rfl) (c_lives10 _) ?_)
  rintro _ w4 ⟨rfl, hEw4⟩
  have hzw4 := hEw4.size
  refine wpF_run 2 [(4, (.bool true)), (97, (.bool true))] (by kernel_rfl) ?_
  refine wpF_end (by kernel_rfl) ?_
  refine then_code ?_
  refine wpC_ret ?_
  refine body_ret1 (by kernel_rfl) (show resVal Try.prog 98 _ _ (.tmp 4) (.bool true) by (show _ = _; kernel_rfl)) ?_
  exact ⟨rfl, (((hEw1.trans hEw2).trans hEw3).trans hEw4)⟩

theorem c_RecordsSlots32 (s : Nat) (p : Int)  (w : World) (hp0 : 2 < s) (hp1 : p ≠ 0) (hp2 : p ≠ 1) :
    Calls Try.prog 11 #[(.int .u8 ((s : Nat) : Int)), (.int .i64 p)] w (Ret fun r w' => r = (.bool true) ∧ Ext w w') := by
  refine calls_of (n := 98) (σ := [(0, (.int .u8 ((s : Nat) : Int))), (1, (.int .i64 p))]) Try.func11 rfl (by kernel_rfl) ?_
  refine wpC_seq ?_
  refine wpC_region ?_
  refine wpF_run 1 [(4, (.bool false))] (by kernel_rfl) ?_
  refine wpF_end (by kernel_rfl) ?_
  refine then_code ?_
  refine wpC_seq ?_
  refine wpC_region ?_
  refine wpF_run 1 [(14, (.int .u8 ((s : Nat) : Int)))] (by kernel_rfl) ?_
  refine wpF_step (op_callAt (d := (some 15)) (by kernel_rfl) (c_SlotBad s _ (by omega)) ?_)
  rintro _ w1 ⟨rfl, hEw1⟩
  have hzw1 := hEw1.size
  refine wpF_run 5 [(6, (.int .i64 ((1 : Nat) : Int))), (5, (.int .i64 ((0 : Nat) : Int))), (17, (.int .i64 ((1 : Nat) : Int))), (16, (.int .i64 ((0 : Nat) : Int))), (13, (.tuple #[(.int .i64 ((0 : Nat) : Int)), (.int .i64 ((1 : Nat) : Int))]))] (by kernel_rfl) ?_
  refine wpF_end (by kernel_rfl) ?_
  refine then_code ?_
  refine wpC_seq ?_
  refine wpC_region ?_
  refine wpF_run 1 [(19, (.int .i64 p))] (by kernel_rfl) ?_
  refine wpF_step (op_callAt (d := (some 20)) (by kernel_rfl) (c_StateBad p _ (by omega) (by omega)) ?_)
  rintro _ w2 ⟨rfl, hEw2⟩
  have hzw2 := hEw2.size
  refine wpF_run 5 [(8, (.int .i64 ((1 : Nat) : Int))), (7, (.int .u8 ((0 : Nat) : Int))), (22, (.int .i64 ((1 : Nat) : Int))), (21, (.int .u8 ((0 : Nat) : Int))), (18, (.tuple #[(.int .u8 ((0 : Nat) : Int)), (.int .i64 ((1 : Nat) : Int))]))] (by kernel_rfl) ?_
  refine wpF_end (by kernel_rfl) ?_
  refine then_code ?_
  refine wpC_seq ?_
  refine wpC_block ?_
  refine wpC_seq ?_
  refine wpC_region ?_
  refine wpF_run 1 [(47, (.int .u8 ((s : Nat) : Int)))] (by kernel_rfl) ?_
  refine wpF_step (op_eqv (d := (some 48)) (.bool ((((s : Nat) : Int) == ((0 : Nat) : Int)))) (.bool false) (by kernel_rfl) (congrArg Value.bool (cmpEqF (by omega))) ?_)
  refine wpF_run 1 [(46, (.bool false))] (by kernel_rfl) ?_
  refine wpF_end (by kernel_rfl) ?_
  refine then_code ?_
  refine wpC_false (by kernel_rfl) ?_
  refine wpC_seq ?_
  refine wpC_region ?_
  refine wpF_run 1 [(56, (.int .u8 ((s : Nat) : Int)))] (by kernel_rfl) ?_
  refine wpF_step (op_eqv (d := (some 57)) (.bool (decide (((s : Nat) : Int) > ((2 : Nat) : Int)))) (.bool true) (by kernel_rfl) (congrArg Value.bool (cmpDT (by omega))) ?_)
  refine wpF_run 1 [(55, (.bool true))] (by kernel_rfl) ?_
  refine wpF_end (by kernel_rfl) ?_
  refine then_code ?_
  refine wpC_true (by kernel_rfl) ?_
  refine wpC_seq ?_
  refine wpC_region ?_
  refine wpF_run 6 [(63, (.bool false)), (62, (.bool false)), (61, (.int .i64 ((1 : Nat) : Int))), (60, (.bool false)), (59, (.bool false)), (58, (.int .i64 ((0 : Nat) : Int)))] (by kernel_rfl) ?_
  refine wpF_end (by kernel_rfl) ?_
  refine then_code ?_
  refine wpC_false (by kernel_rfl) ?_
  refine wpC_skip ?_
  refine inBlock_normal ?_
  refine then_code ?_
  refine wpC_seq ?_
  refine wpC_seq ?_
  refine wpC_region ?_
  refine wpF_run 1 [(64, (.int .i64 p))] (by kernel_rfl) ?_
  refine wpF_step (op_split (d := (some 65)) (decide (p < ((0 : Nat) : Int))) (by kernel_rfl) (fun hc65 => ?_) (fun hc65 => ?_))
  · replace hc65 : p < ((0 : Nat) : Int) := by have := of_d_t hc65; omega
    refine wpF_run 4 [(69, (.bool true)), (68, undef), (67, undef), (66, (.bool true))] (by kernel_rfl) ?_
    refine wpF_end (by kernel_rfl) ?_
    refine then_code ?_
    refine wpC_true (by kernel_rfl) ?_
    refine wpC_seq ?_
    refine wpC_region ?_
    refine wpF_run 7 [(76, (.bool true)), (75, (.bool true)), (74, (.bool true)), (73, (.int .i64 ((1 : Nat) : Int))), (72, (.bool true)), (71, (.bool true)), (70, (.int .u8 ((0 : Nat) : Int)))] (by kernel_rfl) ?_
    refine wpF_step (op_callAt (d := (some 77)) (by kernel_rfl) (c_lives10 _) ?_)
    rintro _ w3 ⟨rfl, hEw3⟩
    have hzw3 := hEw3.size
    refine wpF_run 2 [(4, (.bool true)), (78, (.bool true))] (by kernel_rfl) ?_
    refine wpF_end (by kernel_rfl) ?_
    refine then_code ?_
    refine wpC_ret ?_
    refine then_ret ?_
    refine body_ret1 (by kernel_rfl) (show resVal Try.prog 98 _ _ (.tmp 4) (.bool true) by (show _ = _; kernel_rfl)) ?_
    exact ⟨rfl, ((hEw1.trans hEw2).trans hEw3)⟩
  · replace hc65 : ¬ (p < ((0 : Nat) : Int)) := by have := of_d_f hc65; omega
    refine wpF_run 2 [(67, (.int .i64 p)), (66, (.bool false))] (by kernel_rfl) ?_
    refine wpF_step (op_eqv (d := (some 68)) (.bool (decide (p > ((1 : Nat) : Int)))) (.bool true) (by kernel_rfl) (congrArg Value.bool (cmpDT (by omega))) ?_)
    refine wpF_run 1 [(69, (.bool true))] (by kernel_rfl) ?_
    refine wpF_end (by kernel_rfl) ?_
    refine then_code ?_
    refine wpC_true (by kernel_rfl) ?_
    refine wpC_seq ?_
    refine wpC_region ?_
    refine wpF_run 7 [(76, (.bool true)), (75, (.bool true)), (74, (.bool true)), (73, (.int .i64 ((1 : Nat) : Int))), (72, (.bool true)), (71, (.bool true)), (70, (.int .u8 ((0 : Nat) : Int)))] (by kernel_rfl) ?_
    refine wpF_step (op_callAt (d := (some 77)) (by kernel_rfl) (c_lives10 _) ?_)
    rintro _ w4 ⟨rfl, hEw4⟩
    have hzw4 := hEw4.size
    refine wpF_run 2 [(4, (.bool true)), (78, (.bool true))] (by kernel_rfl) ?_
    refine wpF_end (by kernel_rfl) ?_
    refine then_code ?_
    refine wpC_ret ?_
    refine then_ret ?_
    refine body_ret1 (by kernel_rfl) (show resVal Try.prog 98 _ _ (.tmp 4) (.bool true) by (show _ = _; kernel_rfl)) ?_
    exact ⟨rfl, ((hEw1.trans hEw2).trans hEw4)⟩

theorem c_RecordsSlots (s : Nat) (p : Int) (w : World) :
    Calls Try.prog 11 #[(.int .u8 ((s : Nat) : Int)), (.int .i64 p)] w (Ret fun r w' => r = (.bool true) ∧ Ext w w') := by
  have hs : s = 0 ∨ s = 1 ∨ s = 2 ∨ 2 < s := by omega
  rcases hs with rfl | rfl | rfl | hs <;> by_cases h0 : p = 0 <;> by_cases h1 : p = 1
  · omega
  · subst h0; exact c_RecordsSlots00 w
  · subst h1; exact c_RecordsSlots01 w
  · exact c_RecordsSlots02 p w h0 h1
  · omega
  · subst h0; exact c_RecordsSlots10 w
  · subst h1; exact c_RecordsSlots11 w
  · exact c_RecordsSlots12 p w h0 h1
  · omega
  · subst h0; exact c_RecordsSlots20 w
  · subst h1; exact c_RecordsSlots21 w
  · exact c_RecordsSlots22 p w h0 h1
  · omega
  · subst h0; exact c_RecordsSlots30 s w hs
  · subst h1; exact c_RecordsSlots31 s w hs
  · exact c_RecordsSlots32 s p w hs h0 h1

theorem c_RecordsRecordBad (x : Rec)  (w : World) (hp0 : chkR x = 1) :
    Calls Try.prog 9 #[(.agg (recC x).toArray)] w (Ret fun r w' => r = (.bool true) ∧ Ext w w') := by
  refine calls_of (n := 49) (σ := [(0, (.agg (recC x).toArray))]) Try.func9 rfl (by kernel_rfl) ?_
  refine wpC_seq ?_
  refine wpC_region ?_
  refine wpF_step (op_new (d := (some 1)) (s := Instr.box 52 (.agg (recC x).toArray)) (.pointer (some ⟨w.heap.size, 0, none⟩)) (recC x) 52 (by kernel_rfl) (by kernel_rfl) ?_)
  intro w1 hBw1 hEw1
  have hzw1 := hEw1.size; have hlw1 := hBw1.lt
  refine wpF_run 1 [(2, (.bool false))] (by kernel_rfl) ?_
  refine wpF_end (by kernel_rfl) ?_
  refine then_code ?_
  refine wpC_seq ?_
  refine wpC_region ?_
  refine wpF_step (op_v (d := (some 8)) (s := Instr.loadAt 52 (.pointer (some ⟨w.heap.size, 0, none⟩))) (v := (.agg (recC x).toArray)) (by kernel_rfl) (rn_lda (vs := recC x) (by kernel_rfl) (by rw [recC_len]; kernel_rfl) (hBw1.all)) ?_)
  refine wpF_step (op_callAt (d := (some 9)) (by kernel_rfl) (c_rCheckRecord x _) ?_)
  rintro _ w2 ⟨rfl, hEw2⟩
  have hzw2 := hEw2.size
  refine wpF_run 1 [(3, (.int .i64 ((chkR x : Nat) : Int)))] (by kernel_rfl) ?_
  refine wpF_end (by kernel_rfl) ?_
  refine then_code ?_
  refine wpC_seq ?_
  refine wpC_region ?_
  refine wpF_step (op_v (d := (some 11)) (s := Instr.loadAt 52 (.pointer (some ⟨w.heap.size, 0, none⟩))) (v := (.agg (recC x).toArray)) (by kernel_rfl) (rn_lda (vs := recC x) (by kernel_rfl) (by rw [recC_len]; kernel_rfl) ((hBw1.ext hEw2).all)) ?_)
  refine wpF_step (op_callAt (d := (some 12)) (by kernel_rfl) (c_PutRecordBad x _ (by assumption)) ?_)
  rintro _ w3 ⟨rfl, hEw3⟩
  have hzw3 := hEw3.size
  refine wpF_run 5 [(5, (.int .i64 ((1 : Nat) : Int))), (4, (.slice none 0 0)), (14, (.int .i64 ((1 : Nat) : Int))), (13, (.slice none 0 0)), (10, (.tuple #[(.slice none 0 0), (.int .i64 ((1 : Nat) : Int))]))] (by kernel_rfl) ?_
  refine wpF_end (by kernel_rfl) ?_
  refine then_code ?_
  refine wpC_seq ?_
  refine wpC_seq ?_
  refine wpC_region ?_
  refine wpF_step (op_v (d := (some 15)) (s := Instr.loadAt 52 (.pointer (some ⟨w.heap.size, 0, none⟩))) (v := (.agg (recC x).toArray)) (by kernel_rfl) (rn_lda (vs := recC x) (by kernel_rfl) (by rw [recC_len]; kernel_rfl) ((((hBw1.ext hEw2)).ext hEw3).all)) ?_)
  refine wpF_step (op_callAt (d := (some 16)) (by kernel_rfl) (c_CheckRecord x _) ?_)
  rintro _ w4 ⟨rfl, hEw4⟩
  have hzw4 := hEw4.size
  refine wpF_run 1 [(17, (.int .i64 ((chkR x : Nat) : Int)))] (by kernel_rfl) ?_
  refine wpF_step (op_eqv (d := (some 18)) (.bool ((((chkR x : Nat) : Int) != ((chkR x : Nat) : Int)))) (.bool false) (by kernel_rfl) (congrArg Value.bool (cmpNeF rfl)) ?_)
  refine wpF_end (by kernel_rfl) ?_
  refine then_code ?_
  refine wpC_false (by kernel_rfl) ?_
  refine wpC_skip ?_
  refine then_code ?_
  refine wpC_seq ?_
  refine wpC_seq ?_
  refine wpC_region ?_
  refine wpF_run 1 [(19, (.int .i64 ((chkR x : Nat) : Int)))] (by kernel_rfl) ?_
  refine wpF_step (op_eqv (d := (some 20)) (.bool ((((chkR x : Nat) : Int) != ((0 : Nat) : Int)))) (.bool true) (by kernel_rfl) (congrArg Value.bool (cmpNeT (by omega))) ?_)
  refine wpF_end (by kernel_rfl) ?_
  refine then_code ?_
  refine wpC_true (by kernel_rfl) ?_
  refine wpC_seq ?_
  refine wpC_region ?_
  refine wpF_run 2 [(22, (.int .i64 ((1 : Nat) : Int))), (21, (.slice none 0 0))] (by kernel_rfl) ?_
  refine wpF_step (op_callAt (d := (some 23)) (by kernel_rfl) (c_same10 1 1 _ (Bs.nil 0 0 _) (Bs.nil 0 0 _) (rfl) (by first | rfl | assumption) (rfl)) ?_)
  rintro _ _ ⟨rfl, rfl⟩
  refine wpF_run 1 [(24, (.bool true))] (by kernel_rfl) ?_
  refine wpF_step (op_callAt (d := (some 25)) (by kernel_rfl) (c_lives10 _) ?_)
  rintro _ w5 ⟨rfl, hEw5⟩
  have hzw5 := hEw5.size
  refine wpF_run 2 [(2, (.bool true)), (26, (.bool true))] (by kernel_rfl) ?_
  refine wpF_end (by kernel_rfl) ?_
  refine then_code ?_
  refine wpC_ret ?_
  refine then_ret ?_
  refine body_ret1 (by kernel_rfl) (show resVal Try.prog 49 _ _ (.tmp 2) (.bool true) by (show _ = _; kernel_rfl)) ?_
  exact ⟨rfl, ((((hEw1.trans hEw2).trans hEw3).trans hEw4).trans hEw5)⟩

theorem c_RecordsRecordOk (x : Rec)  (w : World) (hp0 : chkR x = 0) :
    Calls Try.prog 9 #[(.agg (recC x).toArray)] w (Ret fun r w' => r = (.bool true) ∧ Ext w w') := by
  refine calls_of (n := 49) (σ := [(0, (.agg (recC x).toArray))]) Try.func9 rfl (by kernel_rfl) ?_
  refine wpC_seq ?_
  refine wpC_region ?_
  refine wpF_step (op_new (d := (some 1)) (s := Instr.box 52 (.agg (recC x).toArray)) (.pointer (some ⟨w.heap.size, 0, none⟩)) (recC x) 52 (by kernel_rfl) (by kernel_rfl) ?_)
  intro w1 hBw1 hEw1
  have hzw1 := hEw1.size; have hlw1 := hBw1.lt
  refine wpF_run 1 [(2, (.bool false))] (by kernel_rfl) ?_
  refine wpF_end (by kernel_rfl) ?_
  refine then_code ?_
  refine wpC_seq ?_
  refine wpC_region ?_
  refine wpF_step (op_v (d := (some 8)) (s := Instr.loadAt 52 (.pointer (some ⟨w.heap.size, 0, none⟩))) (v := (.agg (recC x).toArray)) (by kernel_rfl) (rn_lda (vs := recC x) (by kernel_rfl) (by rw [recC_len]; kernel_rfl) (hBw1.all)) ?_)
  refine wpF_step (op_callAt (d := (some 9)) (by kernel_rfl) (c_rCheckRecord x _) ?_)
  rintro _ w2 ⟨rfl, hEw2⟩
  have hzw2 := hEw2.size
  refine wpF_run 1 [(3, (.int .i64 ((chkR x : Nat) : Int)))] (by kernel_rfl) ?_
  refine wpF_end (by kernel_rfl) ?_
  refine then_code ?_
  refine wpC_seq ?_
  refine wpC_region ?_
  refine wpF_step (op_v (d := (some 11)) (s := Instr.loadAt 52 (.pointer (some ⟨w.heap.size, 0, none⟩))) (v := (.agg (recC x).toArray)) (by kernel_rfl) (rn_lda (vs := recC x) (by kernel_rfl) (by rw [recC_len]; kernel_rfl) ((hBw1.ext hEw2).all)) ?_)
  refine wpF_step (op_callAt (d := (some 12)) (by kernel_rfl) (c_PutRecord x _ (by assumption)) ?_)
  rintro _ w3 ⟨a1, rfl, hFz2_0, hEw3⟩
  have hzw3 := hEw3.size
  refine wpF_run 5 [(5, (.int .i64 ((0 : Nat) : Int))), (4, (.slice a1 45 45)), (14, (.int .i64 ((0 : Nat) : Int))), (13, (.slice a1 45 45)), (10, (.tuple #[(.slice a1 45 45), (.int .i64 ((0 : Nat) : Int))]))] (by kernel_rfl) ?_
  refine wpF_end (by kernel_rfl) ?_
  refine then_code ?_
  refine wpC_seq ?_
  refine wpC_seq ?_
  refine wpC_region ?_
  refine wpF_step (op_v (d := (some 15)) (s := Instr.loadAt 52 (.pointer (some ⟨w.heap.size, 0, none⟩))) (v := (.agg (recC x).toArray)) (by kernel_rfl) (rn_lda (vs := recC x) (by kernel_rfl) (by rw [recC_len]; kernel_rfl) ((((hBw1.ext hEw2)).ext hEw3).all)) ?_)
  refine wpF_step (op_callAt (d := (some 16)) (by kernel_rfl) (c_CheckRecord x _) ?_)
  rintro _ w4 ⟨rfl, hEw4⟩
  have hzw4 := hEw4.size
  refine wpF_run 1 [(17, (.int .i64 ((chkR x : Nat) : Int)))] (by kernel_rfl) ?_
  refine wpF_step (op_eqv (d := (some 18)) (.bool ((((chkR x : Nat) : Int) != ((chkR x : Nat) : Int)))) (.bool false) (by kernel_rfl) (congrArg Value.bool (cmpNeF rfl)) ?_)
  refine wpF_end (by kernel_rfl) ?_
  refine then_code ?_
  refine wpC_false (by kernel_rfl) ?_
  refine wpC_skip ?_
  refine then_code ?_
  refine wpC_seq ?_
  refine wpC_seq ?_
  refine wpC_region ?_
  refine wpF_run 1 [(19, (.int .i64 ((chkR x : Nat) : Int)))] (by kernel_rfl) ?_
  refine wpF_step (op_eqv (d := (some 20)) (.bool ((((chkR x : Nat) : Int) != ((0 : Nat) : Int)))) (.bool false) (by kernel_rfl) (congrArg Value.bool (cmpNeF (by omega))) ?_)
  refine wpF_end (by kernel_rfl) ?_
  refine then_code ?_
  refine wpC_false (by kernel_rfl) ?_
  refine wpC_skip ?_
  refine then_code ?_
  refine wpC_seq ?_
  refine wpC_region ?_
  refine wpF_run 1 [(28, (.slice a1 45 45))] (by kernel_rfl) ?_
  refine wpF_step (op_callAt (d := (some 29)) (by kernel_rfl) (c_GetRecord _ (hFz2_0.ext hEw4) (by omega) (by rw [Rec.of_B]; exact hp0)) ?_)
  rintro _ w5 ⟨rfl, hEw5⟩
  have hzw5 := hEw5.size
  rw [show Rec.of (recB x) = x from Rec.of_B x]
  refine wpF_run 3 [(31, (.int .i64 ((0 : Nat) : Int))), (30, (.agg (recC (x)).toArray)), (27, (.tuple #[(.agg (recC (x)).toArray), (.int .i64 ((0 : Nat) : Int))]))] (by kernel_rfl) ?_
  refine wpF_step (op_new (d := (some 6)) (s := Instr.alloc 52 true (.tuple #[])) (.pointer (some ⟨w5.heap.size, 0, none⟩)) (recC Rec.zero) 52 (by kernel_rfl) (by kernel_rfl) ?_)
  intro w6 hBw6 hEw6
  have hzw6 := hEw6.size; have hlw6 := hBw6.lt
  refine wpF_step (op_store (d := none) 52 w5.heap.size 0 52 (.agg (recC (x)).toArray) (recC Rec.zero) (recC (x)) (by kernel_rfl) hBw6 rfl (by rw [recC_len]; kernel_rfl) (by simp) (recC_one _) ?_)
  intro w7 hBw7 hCw7
  have hzw7 := hCw7.size
  rw [setFrom_all _ _ (by simp)] at hBw7
  refine wpF_run 1 [(7, (.int .i64 ((0 : Nat) : Int)))] (by kernel_rfl) ?_
  refine wpF_end (by kernel_rfl) ?_
  refine then_code ?_
  refine wpC_seq ?_
  refine wpC_region ?_
  refine wpF_run 2 [(33, (.int .i64 ((0 : Nat) : Int))), (32, (.slice a1 45 45))] (by kernel_rfl) ?_
  refine wpF_step (op_v (d := (some 34)) (s := Instr.loadAt 52 (.pointer (some ⟨w.heap.size, 0, none⟩))) (v := (.agg (recC x).toArray)) (by kernel_rfl) (rn_lda (vs := recC x) (by kernel_rfl) (by rw [recC_len]; kernel_rfl) ((((((((((((hBw1.ext hEw2)).ext hEw3)).ext hEw4)).ext hEw5)).ext hEw6)).chg hCw7 (fun hs => by have h : _ = _ := hs; omega)).all)) ?_)
  refine wpF_step (op_callAt (d := (some 35)) (by kernel_rfl) (c_rRecord x _) ?_)
  rintro _ w8 ⟨a2, ca2, rfl, hFz5_0, hEw8⟩
  have hzw8 := hEw8.size
  have hlea2 := hFz5_0.le
  have hba2 := hFz5_0.bs
  refine wpF_step (op_callAt (d := (some 36)) (by kernel_rfl) (c_same10 0 0 _ (((((((((hFz2_0.ext hEw4)).ext hEw5)).ext hEw6)).chg hCw7 (fun k h1 h2 hs => by have h : k = _ := hs; omega))).ext hEw8) hba2 (rfl) (by first | rfl | assumption) (rfl)) ?_)
  rintro _ _ ⟨rfl, rfl⟩
  refine wpF_run 1 [(37, (.bool true))] (by kernel_rfl) ?_
  refine wpF_step (op_v (d := (some 38)) (s := Instr.loadAt 52 (.pointer (some ⟨w5.heap.size, 0, none⟩))) (v := (.agg (recC (x)).toArray)) (by kernel_rfl) (rn_lda (vs := recC (x)) (by kernel_rfl) (by rw [recC_len]; kernel_rfl) ((hBw7.ext hEw8).all)) ?_)
  refine wpF_step (op_v (d := (some 39)) (s := Instr.loadAt 52 (.pointer (some ⟨w.heap.size, 0, none⟩))) (v := (.agg (recC x).toArray)) (by kernel_rfl) (rn_lda (vs := recC x) (by kernel_rfl) (by rw [recC_len]; kernel_rfl) ((((((((((((((hBw1.ext hEw2)).ext hEw3)).ext hEw4)).ext hEw5)).ext hEw6)).chg hCw7 (fun hs => by have h : _ = _ := hs; omega))).ext hEw8).all)) ?_)
  refine wpF_step (op_v (d := (some 40)) (s := (do eqGuard .eql 52 (.tmp 38) (.tmp 39) (.agg (recC (x)).toArray) (.agg (recC x).toArray); binOp .eql 52 (.agg (recC (x)).toArray) (.agg (recC x).toArray) : Sem Value)) (v := (.bool true)) (by kernel_rfl) (run_eqlAgg (r := true) (T := 52) (by kernel_rfl) ((run_eq_rec (dd := 9997) (t := 52) (t8 := 5) (tn := 48) (td := 50) (e := 5) (t32 := 28) (t64 := 22) (x) x (by kernel_rfl) (by kernel_rfl) (by kernel_rfl) (by kernel_rfl) (by kernel_rfl) (by kernel_rfl) (by kernel_rfl) (by kernel_rfl) (by kernel_rfl) (by kernel_rfl) (by kernel_rfl) (by kernel_rfl)).trans (congrArg (fun b => Result.ok b _) (show ((x).eqb x) = true from (Rec.eqb_iff _ _).2 rfl)))) ?_)
  refine wpF_run 6 [(46, (.bool true)), (45, (.bool true)), (44, (.bool true)), (43, (.int .i64 ((0 : Nat) : Int))), (42, (.bool true)), (41, (.bool true))] (by kernel_rfl) ?_
  refine wpF_step (op_callAt (d := (some 47)) (by kernel_rfl) (c_lives10 _) ?_)
  rintro _ w9 ⟨rfl, hEw9⟩
  have hzw9 := hEw9.size
  refine wpF_run 2 [(2, (.bool true)), (48, (.bool true))] (by kernel_rfl) ?_
  refine wpF_end (by kernel_rfl) ?_
  refine then_code ?_
  refine wpC_ret ?_
  refine body_ret1 (by kernel_rfl) (show resVal Try.prog 49 _ _ (.tmp 2) (.bool true) by (show _ = _; kernel_rfl)) ?_
  exact ⟨rfl, (((Ext.own (((((hEw1.trans hEw2).trans hEw3).trans hEw4).trans hEw5).trans hEw6) hCw7 (by omega)).trans hEw8).trans hEw9)⟩

theorem c_RecordsRecord (x : Rec) (w : World) :
    Calls Try.prog 9 #[(.agg (recC x).toArray)] w (Ret fun r w' => r = (.bool true) ∧ Ext w w') := by
  rcases chkR_le x with h | h
  · exact c_RecordsRecordOk x w h
  · exact c_RecordsRecordBad x w h

theorem c_RecordsEntryBad (x : Ent)  (w : World) (hp0 : chkE x = 1) :
    Calls Try.prog 10 #[(.agg (entC x).toArray)] w (Ret fun r w' => r = (.bool true) ∧ Ext w w') := by
  refine calls_of (n := 49) (σ := [(0, (.agg (entC x).toArray))]) Try.func10 rfl (by kernel_rfl) ?_
  refine wpC_seq ?_
  refine wpC_region ?_
  refine wpF_step (op_new (d := (some 1)) (s := Instr.box 61 (.agg (entC x).toArray)) (.pointer (some ⟨w.heap.size, 0, none⟩)) (entC x) 61 (by kernel_rfl) (by kernel_rfl) ?_)
  intro w1 hBw1 hEw1
  have hzw1 := hEw1.size; have hlw1 := hBw1.lt
  refine wpF_run 1 [(2, (.bool false))] (by kernel_rfl) ?_
  refine wpF_end (by kernel_rfl) ?_
  refine then_code ?_
  refine wpC_seq ?_
  refine wpC_region ?_
  refine wpF_step (op_v (d := (some 8)) (s := Instr.loadAt 61 (.pointer (some ⟨w.heap.size, 0, none⟩))) (v := (.agg (entC x).toArray)) (by kernel_rfl) (rn_lda (vs := entC x) (by kernel_rfl) (by rw [entC_len]; kernel_rfl) (hBw1.all)) ?_)
  refine wpF_step (op_callAt (d := (some 9)) (by kernel_rfl) (c_rCheckEntry x _) ?_)
  rintro _ w2 ⟨rfl, hEw2⟩
  have hzw2 := hEw2.size
  refine wpF_run 1 [(3, (.int .i64 ((chkE x : Nat) : Int)))] (by kernel_rfl) ?_
  refine wpF_end (by kernel_rfl) ?_
  refine then_code ?_
  refine wpC_seq ?_
  refine wpC_region ?_
  refine wpF_step (op_v (d := (some 11)) (s := Instr.loadAt 61 (.pointer (some ⟨w.heap.size, 0, none⟩))) (v := (.agg (entC x).toArray)) (by kernel_rfl) (rn_lda (vs := entC x) (by kernel_rfl) (by rw [entC_len]; kernel_rfl) ((hBw1.ext hEw2).all)) ?_)
  refine wpF_step (op_callAt (d := (some 12)) (by kernel_rfl) (c_PutEntryBad x _ (by assumption)) ?_)
  rintro _ w3 ⟨rfl, hEw3⟩
  have hzw3 := hEw3.size
  refine wpF_run 5 [(5, (.int .i64 ((1 : Nat) : Int))), (4, (.slice none 0 0)), (14, (.int .i64 ((1 : Nat) : Int))), (13, (.slice none 0 0)), (10, (.tuple #[(.slice none 0 0), (.int .i64 ((1 : Nat) : Int))]))] (by kernel_rfl) ?_
  refine wpF_end (by kernel_rfl) ?_
  refine then_code ?_
  refine wpC_seq ?_
  refine wpC_seq ?_
  refine wpC_region ?_
  refine wpF_step (op_v (d := (some 15)) (s := Instr.loadAt 61 (.pointer (some ⟨w.heap.size, 0, none⟩))) (v := (.agg (entC x).toArray)) (by kernel_rfl) (rn_lda (vs := entC x) (by kernel_rfl) (by rw [entC_len]; kernel_rfl) ((((hBw1.ext hEw2)).ext hEw3).all)) ?_)
  refine wpF_step (op_callAt (d := (some 16)) (by kernel_rfl) (c_CheckEntry x _) ?_)
  rintro _ w4 ⟨rfl, hEw4⟩
  have hzw4 := hEw4.size
  refine wpF_run 1 [(17, (.int .i64 ((chkE x : Nat) : Int)))] (by kernel_rfl) ?_
  refine wpF_step (op_eqv (d := (some 18)) (.bool ((((chkE x : Nat) : Int) != ((chkE x : Nat) : Int)))) (.bool false) (by kernel_rfl) (congrArg Value.bool (cmpNeF rfl)) ?_)
  refine wpF_end (by kernel_rfl) ?_
  refine then_code ?_
  refine wpC_false (by kernel_rfl) ?_
  refine wpC_skip ?_
  refine then_code ?_
  refine wpC_seq ?_
  refine wpC_seq ?_
  refine wpC_region ?_
  refine wpF_run 1 [(19, (.int .i64 ((chkE x : Nat) : Int)))] (by kernel_rfl) ?_
  refine wpF_step (op_eqv (d := (some 20)) (.bool ((((chkE x : Nat) : Int) != ((0 : Nat) : Int)))) (.bool true) (by kernel_rfl) (congrArg Value.bool (cmpNeT (by omega))) ?_)
  refine wpF_end (by kernel_rfl) ?_
  refine then_code ?_
  refine wpC_true (by kernel_rfl) ?_
  refine wpC_seq ?_
  refine wpC_region ?_
  refine wpF_run 2 [(22, (.int .i64 ((1 : Nat) : Int))), (21, (.slice none 0 0))] (by kernel_rfl) ?_
  refine wpF_step (op_callAt (d := (some 23)) (by kernel_rfl) (c_same10 1 1 _ (Bs.nil 0 0 _) (Bs.nil 0 0 _) (rfl) (by first | rfl | assumption) (rfl)) ?_)
  rintro _ _ ⟨rfl, rfl⟩
  refine wpF_run 1 [(24, (.bool true))] (by kernel_rfl) ?_
  refine wpF_step (op_callAt (d := (some 25)) (by kernel_rfl) (c_lives10 _) ?_)
  rintro _ w5 ⟨rfl, hEw5⟩
  have hzw5 := hEw5.size
  refine wpF_run 2 [(2, (.bool true)), (26, (.bool true))] (by kernel_rfl) ?_
  refine wpF_end (by kernel_rfl) ?_
  refine then_code ?_
  refine wpC_ret ?_
  refine then_ret ?_
  refine body_ret1 (by kernel_rfl) (show resVal Try.prog 49 _ _ (.tmp 2) (.bool true) by (show _ = _; kernel_rfl)) ?_
  exact ⟨rfl, ((((hEw1.trans hEw2).trans hEw3).trans hEw4).trans hEw5)⟩

theorem c_RecordsEntryOk (x : Ent)  (w : World) (hp0 : chkE x = 0) :
    Calls Try.prog 10 #[(.agg (entC x).toArray)] w (Ret fun r w' => r = (.bool true) ∧ Ext w w') := by
  refine calls_of (n := 49) (σ := [(0, (.agg (entC x).toArray))]) Try.func10 rfl (by kernel_rfl) ?_
  refine wpC_seq ?_
  refine wpC_region ?_
  refine wpF_step (op_new (d := (some 1)) (s := Instr.box 61 (.agg (entC x).toArray)) (.pointer (some ⟨w.heap.size, 0, none⟩)) (entC x) 61 (by kernel_rfl) (by kernel_rfl) ?_)
  intro w1 hBw1 hEw1
  have hzw1 := hEw1.size; have hlw1 := hBw1.lt
  refine wpF_run 1 [(2, (.bool false))] (by kernel_rfl) ?_
  refine wpF_end (by kernel_rfl) ?_
  refine then_code ?_
  refine wpC_seq ?_
  refine wpC_region ?_
  refine wpF_step (op_v (d := (some 8)) (s := Instr.loadAt 61 (.pointer (some ⟨w.heap.size, 0, none⟩))) (v := (.agg (entC x).toArray)) (by kernel_rfl) (rn_lda (vs := entC x) (by kernel_rfl) (by rw [entC_len]; kernel_rfl) (hBw1.all)) ?_)
  refine wpF_step (op_callAt (d := (some 9)) (by kernel_rfl) (c_rCheckEntry x _) ?_)
  rintro _ w2 ⟨rfl, hEw2⟩
  have hzw2 := hEw2.size
  refine wpF_run 1 [(3, (.int .i64 ((chkE x : Nat) : Int)))] (by kernel_rfl) ?_
  refine wpF_end (by kernel_rfl) ?_
  refine then_code ?_
  refine wpC_seq ?_
  refine wpC_region ?_
  refine wpF_step (op_v (d := (some 11)) (s := Instr.loadAt 61 (.pointer (some ⟨w.heap.size, 0, none⟩))) (v := (.agg (entC x).toArray)) (by kernel_rfl) (rn_lda (vs := entC x) (by kernel_rfl) (by rw [entC_len]; kernel_rfl) ((hBw1.ext hEw2).all)) ?_)
  refine wpF_step (op_callAt (d := (some 12)) (by kernel_rfl) (c_PutEntry x _ (by assumption)) ?_)
  rintro _ w3 ⟨a1, rfl, hFz2_0, hEw3⟩
  have hzw3 := hEw3.size
  refine wpF_run 5 [(5, (.int .i64 ((0 : Nat) : Int))), (4, (.slice a1 33 33)), (14, (.int .i64 ((0 : Nat) : Int))), (13, (.slice a1 33 33)), (10, (.tuple #[(.slice a1 33 33), (.int .i64 ((0 : Nat) : Int))]))] (by kernel_rfl) ?_
  refine wpF_end (by kernel_rfl) ?_
  refine then_code ?_
  refine wpC_seq ?_
  refine wpC_seq ?_
  refine wpC_region ?_
  refine wpF_step (op_v (d := (some 15)) (s := Instr.loadAt 61 (.pointer (some ⟨w.heap.size, 0, none⟩))) (v := (.agg (entC x).toArray)) (by kernel_rfl) (rn_lda (vs := entC x) (by kernel_rfl) (by rw [entC_len]; kernel_rfl) ((((hBw1.ext hEw2)).ext hEw3).all)) ?_)
  refine wpF_step (op_callAt (d := (some 16)) (by kernel_rfl) (c_CheckEntry x _) ?_)
  rintro _ w4 ⟨rfl, hEw4⟩
  have hzw4 := hEw4.size
  refine wpF_run 1 [(17, (.int .i64 ((chkE x : Nat) : Int)))] (by kernel_rfl) ?_
  refine wpF_step (op_eqv (d := (some 18)) (.bool ((((chkE x : Nat) : Int) != ((chkE x : Nat) : Int)))) (.bool false) (by kernel_rfl) (congrArg Value.bool (cmpNeF rfl)) ?_)
  refine wpF_end (by kernel_rfl) ?_
  refine then_code ?_
  refine wpC_false (by kernel_rfl) ?_
  refine wpC_skip ?_
  refine then_code ?_
  refine wpC_seq ?_
  refine wpC_seq ?_
  refine wpC_region ?_
  refine wpF_run 1 [(19, (.int .i64 ((chkE x : Nat) : Int)))] (by kernel_rfl) ?_
  refine wpF_step (op_eqv (d := (some 20)) (.bool ((((chkE x : Nat) : Int) != ((0 : Nat) : Int)))) (.bool false) (by kernel_rfl) (congrArg Value.bool (cmpNeF (by omega))) ?_)
  refine wpF_end (by kernel_rfl) ?_
  refine then_code ?_
  refine wpC_false (by kernel_rfl) ?_
  refine wpC_skip ?_
  refine then_code ?_
  refine wpC_seq ?_
  refine wpC_region ?_
  refine wpF_run 1 [(28, (.slice a1 33 33))] (by kernel_rfl) ?_
  refine wpF_step (op_callAt (d := (some 29)) (by kernel_rfl) (c_GetEntry _ (hFz2_0.ext hEw4) (by omega) (by rw [Ent.of_B]; exact hp0)) ?_)
  rintro _ w5 ⟨rfl, hEw5⟩
  have hzw5 := hEw5.size
  rw [show Ent.of (entB x) = x from Ent.of_B x]
  refine wpF_run 3 [(31, (.int .i64 ((0 : Nat) : Int))), (30, (.agg (entC (x)).toArray)), (27, (.tuple #[(.agg (entC (x)).toArray), (.int .i64 ((0 : Nat) : Int))]))] (by kernel_rfl) ?_
  refine wpF_step (op_new (d := (some 6)) (s := Instr.alloc 61 true (.tuple #[])) (.pointer (some ⟨w5.heap.size, 0, none⟩)) (entC Ent.zero) 61 (by kernel_rfl) (by kernel_rfl) ?_)
  intro w6 hBw6 hEw6
  have hzw6 := hEw6.size; have hlw6 := hBw6.lt
  refine wpF_step (op_store (d := none) 61 w5.heap.size 0 61 (.agg (entC (x)).toArray) (entC Ent.zero) (entC (x)) (by kernel_rfl) hBw6 rfl (by rw [entC_len]; kernel_rfl) (by simp) (entC_one _) ?_)
  intro w7 hBw7 hCw7
  have hzw7 := hCw7.size
  rw [setFrom_all _ _ (by simp)] at hBw7
  refine wpF_run 1 [(7, (.int .i64 ((0 : Nat) : Int)))] (by kernel_rfl) ?_
  refine wpF_end (by kernel_rfl) ?_
  refine then_code ?_
  refine wpC_seq ?_
  refine wpC_region ?_
  refine wpF_run 2 [(33, (.int .i64 ((0 : Nat) : Int))), (32, (.slice a1 33 33))] (by kernel_rfl) ?_
  refine wpF_step (op_v (d := (some 34)) (s := Instr.loadAt 61 (.pointer (some ⟨w.heap.size, 0, none⟩))) (v := (.agg (entC x).toArray)) (by kernel_rfl) (rn_lda (vs := entC x) (by kernel_rfl) (by rw [entC_len]; kernel_rfl) ((((((((((((hBw1.ext hEw2)).ext hEw3)).ext hEw4)).ext hEw5)).ext hEw6)).chg hCw7 (fun hs => by have h : _ = _ := hs; omega)).all)) ?_)
  refine wpF_step (op_callAt (d := (some 35)) (by kernel_rfl) (c_rEntry x _) ?_)
  rintro _ w8 ⟨a2, ca2, rfl, hFz5_0, hEw8⟩
  have hzw8 := hEw8.size
  have hlea2 := hFz5_0.le
  have hba2 := hFz5_0.bs
  refine wpF_step (op_callAt (d := (some 36)) (by kernel_rfl) (c_same10 0 0 _ (((((((((hFz2_0.ext hEw4)).ext hEw5)).ext hEw6)).chg hCw7 (fun k h1 h2 hs => by have h : k = _ := hs; omega))).ext hEw8) hba2 (rfl) (by first | rfl | assumption) (rfl)) ?_)
  rintro _ _ ⟨rfl, rfl⟩
  refine wpF_run 1 [(37, (.bool true))] (by kernel_rfl) ?_
  refine wpF_step (op_v (d := (some 38)) (s := Instr.loadAt 61 (.pointer (some ⟨w5.heap.size, 0, none⟩))) (v := (.agg (entC (x)).toArray)) (by kernel_rfl) (rn_lda (vs := entC (x)) (by kernel_rfl) (by rw [entC_len]; kernel_rfl) ((hBw7.ext hEw8).all)) ?_)
  refine wpF_step (op_v (d := (some 39)) (s := Instr.loadAt 61 (.pointer (some ⟨w.heap.size, 0, none⟩))) (v := (.agg (entC x).toArray)) (by kernel_rfl) (rn_lda (vs := entC x) (by kernel_rfl) (by rw [entC_len]; kernel_rfl) ((((((((((((((hBw1.ext hEw2)).ext hEw3)).ext hEw4)).ext hEw5)).ext hEw6)).chg hCw7 (fun hs => by have h : _ = _ := hs; omega))).ext hEw8).all)) ?_)
  refine wpF_step (op_v (d := (some 40)) (s := (do eqGuard .eql 61 (.tmp 38) (.tmp 39) (.agg (entC (x)).toArray) (.agg (entC x).toArray); binOp .eql 61 (.agg (entC (x)).toArray) (.agg (entC x).toArray) : Sem Value)) (v := (.bool true)) (by kernel_rfl) (run_eqlAgg (r := true) (T := 61) (by kernel_rfl) ((run_eq_ent (dd := 9997) (t := 61) (t8 := 5) (td := 50) (e := 5) (x) x (by kernel_rfl) (by kernel_rfl) (by kernel_rfl) (by kernel_rfl) (by kernel_rfl) (by kernel_rfl) (by kernel_rfl)).trans (congrArg (fun b => Result.ok b _) (show ((x).eqb x) = true from (Ent.eqb_iff _ _).2 rfl)))) ?_)
  refine wpF_run 6 [(46, (.bool true)), (45, (.bool true)), (44, (.bool true)), (43, (.int .i64 ((0 : Nat) : Int))), (42, (.bool true)), (41, (.bool true))] (by kernel_rfl) ?_
  refine wpF_step (op_callAt (d := (some 47)) (by kernel_rfl) (c_lives10 _) ?_)
  rintro _ w9 ⟨rfl, hEw9⟩
  have hzw9 := hEw9.size
  refine wpF_run 2 [(2, (.bool true)), (48, (.bool true))] (by kernel_rfl) ?_
  refine wpF_end (by kernel_rfl) ?_
  refine then_code ?_
  refine wpC_ret ?_
  refine body_ret1 (by kernel_rfl) (show resVal Try.prog 49 _ _ (.tmp 2) (.bool true) by (show _ = _; kernel_rfl)) ?_
  exact ⟨rfl, (((Ext.own (((((hEw1.trans hEw2).trans hEw3).trans hEw4).trans hEw5).trans hEw6) hCw7 (by omega)).trans hEw8).trans hEw9)⟩

theorem c_RecordsEntry (x : Ent) (w : World) :
    Calls Try.prog 10 #[(.agg (entC x).toArray)] w (Ret fun r w' => r = (.bool true) ∧ Ext w w') := by
  rcases chkE_le x with h | h
  · exact c_RecordsEntryOk x w h
  · exact c_RecordsEntryBad x w h

theorem c_RecordsCell (x : Cel)  (w : World)  :
    Calls Try.prog 12 #[(.agg (celC x).toArray)] w (Ret fun r w' => r = (.bool true) ∧ Ext w w') := by
  refine calls_of (n := 29) (σ := [(0, (.agg (celC x).toArray))]) Try.func12 rfl (by kernel_rfl) ?_
  refine wpC_seq ?_
  refine wpC_region ?_
  refine wpF_step (op_new (d := (some 1)) (s := Instr.box 75 (.agg (celC x).toArray)) (.pointer (some ⟨w.heap.size, 0, none⟩)) (celC x) 75 (by kernel_rfl) (by kernel_rfl) ?_)
  intro w1 hBw1 hEw1
  have hzw1 := hEw1.size; have hlw1 := hBw1.lt
  refine wpF_run 1 [(2, (.bool false))] (by kernel_rfl) ?_
  refine wpF_end (by kernel_rfl) ?_
  refine then_code ?_
  refine wpC_seq ?_
  refine wpC_region ?_
  refine wpF_step (op_v (d := (some 6)) (s := Instr.loadAt 75 (.pointer (some ⟨w.heap.size, 0, none⟩))) (v := (.agg (celC x).toArray)) (by kernel_rfl) (rn_lda (vs := celC x) (by kernel_rfl) (by rw [celC_len]; kernel_rfl) (hBw1.all)) ?_)
  refine wpF_step (op_callAt (d := (some 7)) (by kernel_rfl) (c_PutCell x _) ?_)
  rintro _ w2 ⟨a1, rfl, hFz1_0, hEw2⟩
  have hzw2 := hEw2.size
  refine wpF_run 1 [(3, (.slice a1 48 48))] (by kernel_rfl) ?_
  refine wpF_end (by kernel_rfl) ?_
  refine then_code ?_
  refine wpC_seq ?_
  refine wpC_region ?_
  refine wpF_run 1 [(9, (.slice a1 48 48))] (by kernel_rfl) ?_
  refine wpF_step (op_callAt (d := (some 10)) (by kernel_rfl) (c_GetCell _ hFz1_0 (by omega)) ?_)
  rintro _ w3 ⟨rfl, hEw3⟩
  have hzw3 := hEw3.size
  rw [show Cel.of (celB x) = x from Cel.of_B x]
  refine wpF_run 3 [(12, (.int .i64 ((0 : Nat) : Int))), (11, (.agg (celC (x)).toArray)), (8, (.tuple #[(.agg (celC (x)).toArray), (.int .i64 ((0 : Nat) : Int))]))] (by kernel_rfl) ?_
  refine wpF_step (op_new (d := (some 4)) (s := Instr.alloc 75 true (.tuple #[])) (.pointer (some ⟨w3.heap.size, 0, none⟩)) (celC Cel.zero) 75 (by kernel_rfl) (by kernel_rfl) ?_)
  intro w4 hBw4 hEw4
  have hzw4 := hEw4.size; have hlw4 := hBw4.lt
  refine wpF_step (op_store (d := none) 75 w3.heap.size 0 75 (.agg (celC (x)).toArray) (celC Cel.zero) (celC (x)) (by kernel_rfl) hBw4 rfl (by rw [celC_len]; kernel_rfl) (by simp) (celC_one _) ?_)
  intro w5 hBw5 hCw5
  have hzw5 := hCw5.size
  rw [setFrom_all _ _ (by simp)] at hBw5
  refine wpF_run 1 [(5, (.int .i64 ((0 : Nat) : Int)))] (by kernel_rfl) ?_
  refine wpF_end (by kernel_rfl) ?_
  refine then_code ?_
  refine wpC_seq ?_
  refine wpC_region ?_
  refine wpF_run 1 [(13, (.slice a1 48 48))] (by kernel_rfl) ?_
  refine wpF_step (op_v (d := (some 14)) (s := Instr.loadAt 75 (.pointer (some ⟨w.heap.size, 0, none⟩))) (v := (.agg (celC x).toArray)) (by kernel_rfl) (rn_lda (vs := celC x) (by kernel_rfl) (by rw [celC_len]; kernel_rfl) ((((((((hBw1.ext hEw2)).ext hEw3)).ext hEw4)).chg hCw5 (fun hs => by have h : _ = _ := hs; omega)).all)) ?_)
  refine wpF_step (op_callAt (d := (some 15)) (by kernel_rfl) (c_rCell x _) ?_)
  rintro _ w6 ⟨a2, ca2, rfl, hFz3_0, hEw6⟩
  have hzw6 := hEw6.size
  have hlea2 := hFz3_0.le
  have hba2 := hFz3_0.bs
  refine wpF_step (op_callAt (d := (some 16)) (by kernel_rfl) (c_same10 0 0 _ (((((((hFz1_0.ext hEw3)).ext hEw4)).chg hCw5 (fun k h1 h2 hs => by have h : k = _ := hs; omega))).ext hEw6) hba2 (rfl) (by first | rfl | assumption) (rfl)) ?_)
  rintro _ _ ⟨rfl, rfl⟩
  refine wpF_run 1 [(17, (.bool true))] (by kernel_rfl) ?_
  refine wpF_step (op_v (d := (some 18)) (s := Instr.loadAt 75 (.pointer (some ⟨w3.heap.size, 0, none⟩))) (v := (.agg (celC (x)).toArray)) (by kernel_rfl) (rn_lda (vs := celC (x)) (by kernel_rfl) (by rw [celC_len]; kernel_rfl) ((hBw5.ext hEw6).all)) ?_)
  refine wpF_step (op_v (d := (some 19)) (s := Instr.loadAt 75 (.pointer (some ⟨w.heap.size, 0, none⟩))) (v := (.agg (celC x).toArray)) (by kernel_rfl) (rn_lda (vs := celC x) (by kernel_rfl) (by rw [celC_len]; kernel_rfl) ((((((((((hBw1.ext hEw2)).ext hEw3)).ext hEw4)).chg hCw5 (fun hs => by have h : _ = _ := hs; omega))).ext hEw6).all)) ?_)
  refine wpF_step (op_v (d := (some 20)) (s := (do eqGuard .eql 75 (.tmp 18) (.tmp 19) (.agg (celC (x)).toArray) (.agg (celC x).toArray); binOp .eql 75 (.agg (celC (x)).toArray) (.agg (celC x).toArray) : Sem Value)) (v := (.bool true)) (by kernel_rfl) (run_eqlAgg (r := true) (T := 75) (by kernel_rfl) ((run_eq_cel (dd := 9997) (t := 75) (td := 50) (e := 5) (t64 := 22) (x) x (by kernel_rfl) (by kernel_rfl) (by kernel_rfl) (by kernel_rfl) (by kernel_rfl) (by kernel_rfl) (by kernel_rfl)).trans (congrArg (fun b => Result.ok b _) (show ((x).eqb x) = true from (Cel.eqb_iff _ _).2 rfl)))) ?_)
  refine wpF_run 6 [(26, (.bool true)), (25, (.bool true)), (24, (.bool true)), (23, (.int .i64 ((0 : Nat) : Int))), (22, (.bool true)), (21, (.bool true))] (by kernel_rfl) ?_
  refine wpF_step (op_callAt (d := (some 27)) (by kernel_rfl) (c_lives10 _) ?_)
  rintro _ w7 ⟨rfl, hEw7⟩
  have hzw7 := hEw7.size
  refine wpF_run 2 [(2, (.bool true)), (28, (.bool true))] (by kernel_rfl) ?_
  refine wpF_end (by kernel_rfl) ?_
  refine then_code ?_
  refine wpC_ret ?_
  refine body_ret1 (by kernel_rfl) (show resVal Try.prog 29 _ _ (.tmp 2) (.bool true) by (show _ = _; kernel_rfl)) ?_
  exact ⟨rfl, (((Ext.own (((hEw1.trans hEw2).trans hEw3).trans hEw4) hCw5 (by omega)).trans hEw6).trans hEw7)⟩

end Go.Proofs.Ytigeaknjhnichaa
