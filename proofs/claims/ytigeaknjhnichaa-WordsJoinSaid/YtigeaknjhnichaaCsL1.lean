/- CsL1: what each function does, by its own code. No condition beyond those of each statement. -/
import Derived.Test.YtigeaknjhnichaaCsW3
import Derived.Test.YtigeaknjhnichaaCsWords2
namespace Go.Proofs.Ytigeaknjhnichaa
open Go Go.RowKit Go.Cs
set_option maxRecDepth 100000
set_option linter.all false
set_option linter.unusedVariables false

theorem c_same1 {lo_l hi_l : Nat} {a_l : Option Addr} {n_l c_l : Nat} {l : List UInt8} (e : Nat) {lo_m hi_m : Nat} {a_m : Option Addr} {n_m c_m : Nat} {m : List UInt8} (f : Nat)  (w : World) (h_l : Bs lo_l hi_l w a_l n_l c_l l) (h_m : Bs lo_m hi_m w a_m n_m c_m m) (hp0 : e = f) (hp1 : l = m) (hp2 : c_l = n_l) :
    Calls Try.prog 19 #[(.slice a_l n_l c_l), (.int .i64 ((e : Nat) : Int)), (.slice a_m n_m c_m), (.int .i64 ((f : Nat) : Int))] w (Ret fun r w' => r = (.bool true) ∧ w = w') := by
  refine calls_of (n := 26) (σ := [(0, (.slice a_l n_l c_l)), (1, (.int .i64 ((e : Nat) : Int))), (2, (.slice a_m n_m c_m)), (3, (.int .i64 ((f : Nat) : Int)))]) Try.func19 rfl (by kernel_rfl) ?_
  replace h_l := h_l.now; have hle_l := h_l.le
  replace h_m := h_m.now; have hle_m := h_m.le
  refine wpC_seq ?_
  refine wpC_region ?_
  refine wpF_run 1 [(8, (.bool false))] (by kernel_rfl) ?_
  refine wpF_end (by kernel_rfl) ?_
  refine then_code ?_
  refine wpC_seq ?_
  refine wpC_region ?_
  refine wpF_run 2 [(10, (.int .i64 ((f : Nat) : Int))), (9, (.int .i64 ((e : Nat) : Int)))] (by kernel_rfl) ?_
  refine wpF_step (op_eqv (d := (some 11)) (.bool ((((e : Nat) : Int) == ((f : Nat) : Int)))) (.bool true) (by kernel_rfl) (congrArg Value.bool (by rw [hp0]; simp)) ?_)
  refine wpF_run 2 [(13, (.slice a_l n_l c_l)), (12, (.bool true))] (by kernel_rfl) ?_
  refine wpF_step (op_v (d := (some 14)) (s := convert 23 9 (.slice a_l n_l c_l)) (v := (.string ⟨(l).toArray⟩)) (by kernel_rfl) (run_string (E := 5) (by kernel_rfl) (by kernel_rfl) (by kernel_rfl) h_l) ?_)
  refine wpF_run 1 [(15, (.slice a_m n_m c_m))] (by kernel_rfl) ?_
  refine wpF_step (op_v (d := (some 16)) (s := convert 23 9 (.slice a_m n_m c_m)) (v := (.string ⟨(m).toArray⟩)) (by kernel_rfl) (run_string (E := 5) (by kernel_rfl) (by kernel_rfl) (by kernel_rfl) h_m) ?_)
  refine wpF_step (op_eqv (d := (some 17)) (.bool ((⟨(l).toArray⟩ : ByteArray).toList == (⟨(m).toArray⟩ : ByteArray).toList)) (.bool true) (by kernel_rfl) (congrArg Value.bool (strT (hp1))) ?_)
  refine wpF_run 6 [(23, (.int .i64 ((n_l : Nat) : Int))), (22, (.slice a_l n_l c_l)), (21, (.int .i64 ((c_l : Nat) : Int))), (20, (.slice a_l n_l c_l)), (19, (.bool true)), (18, (.bool true))] (by kernel_rfl) ?_
  refine wpF_step (op_eqv (d := (some 24)) (.bool ((((c_l : Nat) : Int) == ((n_l : Nat) : Int)))) (.bool true) (by kernel_rfl) (congrArg Value.bool (by rw [hp2]; simp)) ?_)
  refine wpF_run 2 [(8, (.bool true)), (25, (.bool true))] (by kernel_rfl) ?_
  refine wpF_end (by kernel_rfl) ?_
  refine then_code ?_
  refine wpC_ret ?_
  refine body_ret1 (by kernel_rfl) (show resVal Try.prog 26 _ _ (.tmp 8) (.bool true) by (show _ = _; kernel_rfl)) ?_
  exact ⟨rfl, rfl⟩

theorem c_lives1   (w : World)  :
    Calls Try.prog 23 #[] w (Ret fun r w' => r = (.bool true) ∧ Ext w w') := by
  refine calls_of (n := 104) (σ := []) Try.func23 rfl (by kernel_rfl) ?_
  refine wpC_seq ?_
  refine wpC_region ?_
  refine wpF_run 1 [(0, (.bool false))] (by kernel_rfl) ?_
  refine wpF_end (by kernel_rfl) ?_
  refine then_code ?_
  refine wpC_seq ?_
  refine wpC_seq ?_
  refine wpC_region ?_
  refine wpF_step (op_callAt (d := (some 11)) (by kernel_rfl) (c_Put32 1 _ (by omega)) ?_)
  rintro _ w1 ⟨a1, rfl, hFz1_0, hEw1⟩
  have hzw1 := hEw1.size
  refine wpF_step (op_new (d := (some 12)) (s := Instr.buildSlice 23 4 #[(0, (.int .u8 ((0 : Nat) : Int))), (1, (.int .u8 ((0 : Nat) : Int))), (2, (.int .u8 ((0 : Nat) : Int))), (3, (.int .u8 ((1 : Nat) : Int)))]) (.slice (some ⟨w1.heap.size, 0, none⟩) 4 4) [(.int .u8 ((0 : Nat) : Int)), (.int .u8 ((0 : Nat) : Int)), (.int .u8 ((0 : Nat) : Int)), (.int .u8 ((1 : Nat) : Int))] 5 (by kernel_rfl) (by kernel_rfl) ?_)
  intro w2 hBw2 hEw2
  have hzw2 := hEw2.size; have hlw2 := hBw2.lt
  have hSw2 : Bs w1.heap.size (w1.heap.size + 1) w2 (some ⟨w1.heap.size, 0, none⟩) 4 4 [0, 0, 0, 1] := Bs.of_blk hBw2 (by kernel_rfl) rfl (Nat.le_refl _) (by decide) (Nat.le_refl _) (Nat.lt_succ_self _)
  refine wpF_step (op_callAt (d := (some 13)) (by kernel_rfl) (c_same1 0 0 _ (hFz1_0.ext hEw2) hSw2 (rfl) (by first | rfl | assumption) (rfl)) ?_)
  rintro _ _ ⟨rfl, rfl⟩
  refine wpF_run 2 [(15, (.bool false)), (14, (.bool false))] (by kernel_rfl) ?_
  refine wpF_step (op_callAt (d := (some 16)) (by kernel_rfl) (c_Put32 305419896 _ (by omega)) ?_)
  rintro _ w3 ⟨a2, rfl, hFz3_0, hEw3⟩
  have hzw3 := hEw3.size
  refine wpF_step (op_new (d := (some 17)) (s := Instr.buildSlice 23 4 #[(0, (.int .u8 ((18 : Nat) : Int))), (1, (.int .u8 ((52 : Nat) : Int))), (2, (.int .u8 ((86 : Nat) : Int))), (3, (.int .u8 ((120 : Nat) : Int)))]) (.slice (some ⟨w3.heap.size, 0, none⟩) 4 4) [(.int .u8 ((18 : Nat) : Int)), (.int .u8 ((52 : Nat) : Int)), (.int .u8 ((86 : Nat) : Int)), (.int .u8 ((120 : Nat) : Int))] 5 (by kernel_rfl) (by kernel_rfl) ?_)
  intro w4 hBw4 hEw4
  have hzw4 := hEw4.size; have hlw4 := hBw4.lt
  have hSw4 : Bs w3.heap.size (w3.heap.size + 1) w4 (some ⟨w3.heap.size, 0, none⟩) 4 4 [18, 52, 86, 120] := Bs.of_blk hBw4 (by kernel_rfl) rfl (Nat.le_refl _) (by decide) (Nat.le_refl _) (Nat.lt_succ_self _)
  refine wpF_step (op_callAt (d := (some 18)) (by kernel_rfl) (c_same1 0 0 _ (hFz3_0.ext hEw4) hSw4 (rfl) (by first | rfl | assumption) (rfl)) ?_)
  rintro _ _ ⟨rfl, rfl⟩
  refine wpF_run 3 [(21, (.bool false)), (20, (.bool false)), (19, (.bool false))] (by kernel_rfl) ?_
  refine wpF_step (op_callAt (d := (some 22)) (by kernel_rfl) (c_Put64 258 _) ?_)
  rintro _ w5 ⟨a3, rfl, hFz5_0, hEw5⟩
  have hzw5 := hEw5.size
  refine wpF_step (op_new (d := (some 23)) (s := Instr.buildSlice 23 8 #[(0, (.int .u8 ((0 : Nat) : Int))), (1, (.int .u8 ((0 : Nat) : Int))), (2, (.int .u8 ((0 : Nat) : Int))), (3, (.int .u8 ((0 : Nat) : Int))), (4, (.int .u8 ((0 : Nat) : Int))), (5, (.int .u8 ((0 : Nat) : Int))), (6, (.int .u8 ((1 : Nat) : Int))), (7, (.int .u8 ((2 : Nat) : Int)))]) (.slice (some ⟨w5.heap.size, 0, none⟩) 8 8) [(.int .u8 ((0 : Nat) : Int)), (.int .u8 ((0 : Nat) : Int)), (.int .u8 ((0 : Nat) : Int)), (.int .u8 ((0 : Nat) : Int)), (.int .u8 ((0 : Nat) : Int)), (.int .u8 ((0 : Nat) : Int)), (.int .u8 ((1 : Nat) : Int)), (.int .u8 ((2 : Nat) : Int))] 5 (by kernel_rfl) (by kernel_rfl) ?_)
  intro w6 hBw6 hEw6
  have hzw6 := hEw6.size; have hlw6 := hBw6.lt
  have hSw6 : Bs w5.heap.size (w5.heap.size + 1) w6 (some ⟨w5.heap.size, 0, none⟩) 8 8 [0, 0, 0, 0, 0, 0, 1, 2] := Bs.of_blk hBw6 (by kernel_rfl) rfl (Nat.le_refl _) (by decide) (Nat.le_refl _) (Nat.lt_succ_self _)
  refine wpF_step (op_callAt (d := (some 24)) (by kernel_rfl) (c_same1 0 0 _ (hFz5_0.ext hEw6) hSw6 (rfl) (by first | rfl | assumption) (rfl)) ?_)
  rintro _ _ ⟨rfl, rfl⟩
  refine wpF_run 2 [(26, (.bool false)), (25, (.bool false))] (by kernel_rfl) ?_
  refine wpF_end (by kernel_rfl) ?_
  refine then_code ?_
  refine wpC_false (by kernel_rfl) ?_
  refine wpC_skip ?_
  refine then_code ?_
  refine wpC_seq ?_
  refine wpC_region ?_
  refine wpF_step (op_new (d := (some 28)) (s := Instr.buildSlice 23 4 #[(0, (.int .u8 ((0 : Nat) : Int))), (1, (.int .u8 ((0 : Nat) : Int))), (2, (.int .u8 ((1 : Nat) : Int))), (3, (.int .u8 ((0 : Nat) : Int)))]) (.slice (some ⟨w6.heap.size, 0, none⟩) 4 4) [(.int .u8 ((0 : Nat) : Int)), (.int .u8 ((0 : Nat) : Int)), (.int .u8 ((1 : Nat) : Int)), (.int .u8 ((0 : Nat) : Int))] 5 (by kernel_rfl) (by kernel_rfl) ?_)
  intro w7 hBw7 hEw7
  have hzw7 := hEw7.size; have hlw7 := hBw7.lt
  have hSw7 : Bs w6.heap.size (w6.heap.size + 1) w7 (some ⟨w6.heap.size, 0, none⟩) 4 4 [0, 0, 1, 0] := Bs.of_blk hBw7 (by kernel_rfl) rfl (Nat.le_refl _) (by decide) (Nat.le_refl _) (Nat.lt_succ_self _)
  refine wpF_step (op_callAt (d := (some 29)) (by kernel_rfl) (c_Get32 _ hSw7) ?_)
  rintro _ _ ⟨rfl, rfl⟩
  rw [show getV [0, 0, 1, 0] 4 = 256 from rfl]
  rw [show getE [0, 0, 1, 0] 4 = 0 from rfl]
  refine wpF_run 5 [(2, (.int .i64 ((getE ([0, 0, 1, 0]) 4 : Nat) : Int))), (1, (.int .u32 ((getV ([0, 0, 1, 0]) 4 : Nat) : Int))), (31, (.int .i64 ((getE ([0, 0, 1, 0]) 4 : Nat) : Int))), (30, (.int .u32 ((getV ([0, 0, 1, 0]) 4 : Nat) : Int))), (27, (.tuple #[(.int .u32 ((getV ([0, 0, 1, 0]) 4 : Nat) : Int)), (.int .i64 ((getE ([0, 0, 1, 0]) 4 : Nat) : Int))]))] (by kernel_rfl) ?_
  refine wpF_end (by kernel_rfl) ?_
  refine then_code ?_
  refine wpC_seq ?_
  refine wpC_region ?_
  refine wpF_step (op_new (d := (some 33)) (s := Instr.buildSlice 23 3 #[(0, (.int .u8 ((1 : Nat) : Int))), (1, (.int .u8 ((2 : Nat) : Int))), (2, (.int .u8 ((3 : Nat) : Int)))]) (.slice (some ⟨w7.heap.size, 0, none⟩) 3 3) [(.int .u8 ((1 : Nat) : Int)), (.int .u8 ((2 : Nat) : Int)), (.int .u8 ((3 : Nat) : Int))] 5 (by kernel_rfl) (by kernel_rfl) ?_)
  intro w8 hBw8 hEw8
  have hzw8 := hEw8.size; have hlw8 := hBw8.lt
  have hSw8 : Bs w7.heap.size (w7.heap.size + 1) w8 (some ⟨w7.heap.size, 0, none⟩) 3 3 [1, 2, 3] := Bs.of_blk hBw8 (by kernel_rfl) rfl (Nat.le_refl _) (by decide) (Nat.le_refl _) (Nat.lt_succ_self _)
  refine wpF_step (op_callAt (d := (some 34)) (by kernel_rfl) (c_Get32 _ hSw8) ?_)
  rintro _ _ ⟨rfl, rfl⟩
  rw [show getE [1, 2, 3] 4 = 6 from rfl]
  refine wpF_run 5 [(4, (.int .i64 ((getE ([1, 2, 3]) 4 : Nat) : Int))), (3, (.int .u32 ((getV ([1, 2, 3]) 4 : Nat) : Int))), (36, (.int .i64 ((getE ([1, 2, 3]) 4 : Nat) : Int))), (35, (.int .u32 ((getV ([1, 2, 3]) 4 : Nat) : Int))), (32, (.tuple #[(.int .u32 ((getV ([1, 2, 3]) 4 : Nat) : Int)), (.int .i64 ((getE ([1, 2, 3]) 4 : Nat) : Int))]))] (by kernel_rfl) ?_
  refine wpF_end (by kernel_rfl) ?_
  refine then_code ?_
  refine wpC_seq ?_
  refine wpC_region ?_
  refine wpF_step (op_make (d := (some 38)) 23 5 1 1 9 .i64 .i64 (.int .u8 ((0 : Nat) : Int)) (by kernel_rfl) (by kernel_rfl) (by kernel_rfl) (by omega) (by omega) ?_)
  rw [show (Value.cells (.int .u8 ((0 : Nat) : Int))) = #[(.int .u8 ((0 : Nat) : Int))] from rfl, Nat.mul_one, madeCells_one]
  intro w9 hBw9 hEw9
  have hzw9 := hEw9.size; have hlw9 := hBw9.lt
  have hSw9 : Bs w8.heap.size (w8.heap.size + 1) w9 (some ⟨w8.heap.size, 0, none⟩) 9 9 (List.replicate 9 0) := Bs.of_blk hBw9 (u8s_zero _) (by simp) (Nat.le_refl _) (by simp only [maxLen]; omega) (Nat.le_refl _) (Nat.lt_succ_self _)
  refine wpF_step (op_callAt (d := (some 39)) (by kernel_rfl) (c_Get64 _ hSw9) ?_)
  rintro _ _ ⟨rfl, rfl⟩
  rw [show getE (List.replicate 9 0) 8 = 5 from rfl]
  refine wpF_run 5 [(6, (.int .i64 ((5 : Nat) : Int))), (5, (.int .u64 ((getV (List.replicate 9 0) 8 : Nat) : Int))), (41, (.int .i64 ((5 : Nat) : Int))), (40, (.int .u64 ((getV (List.replicate 9 0) 8 : Nat) : Int))), (37, (.tuple #[(.int .u64 ((getV (List.replicate 9 0) 8 : Nat) : Int)), (.int .i64 ((5 : Nat) : Int))]))] (by kernel_rfl) ?_
  refine wpF_end (by kernel_rfl) ?_
  refine then_code ?_
  refine wpC_seq ?_
  refine wpC_seq ?_
  refine wpC_region ?_
  refine wpF_run 1 [(42, (.int .u32 ((getV ([0, 0, 1, 0]) 4 : Nat) : Int)))] (by kernel_rfl) ?_
  refine wpF_step (op_eqv (d := (some 43)) (.bool ((((getV ([0, 0, 1, 0]) 4 : Nat) : Int) != ((256 : Nat) : Int)))) (.bool false) (by kernel_rfl) (congrArg Value.bool (by first | rfl | decide)) ?_)
  refine wpF_run 2 [(45, (.int .i64 ((getE ([0, 0, 1, 0]) 4 : Nat) : Int))), (44, (.bool false))] (by kernel_rfl) ?_
  refine wpF_step (op_eqv (d := (some 46)) (.bool ((((getE ([0, 0, 1, 0]) 4 : Nat) : Int) != ((0 : Nat) : Int)))) (.bool false) (by kernel_rfl) (congrArg Value.bool (by first | rfl | decide)) ?_)
  refine wpF_run 3 [(49, (.int .i64 ((getE ([1, 2, 3]) 4 : Nat) : Int))), (48, (.bool false)), (47, (.bool false))] (by kernel_rfl) ?_
  refine wpF_step (op_eqv (d := (some 50)) (.bool ((((getE ([1, 2, 3]) 4 : Nat) : Int) != ((6 : Nat) : Int)))) (.bool false) (by kernel_rfl) (congrArg Value.bool (by first | rfl | decide)) ?_)
  refine wpF_run 6 [(56, (.bool false)), (55, (.bool false)), (54, (.bool false)), (53, (.int .i64 ((5 : Nat) : Int))), (52, (.bool false)), (51, (.bool false))] (by kernel_rfl) ?_
  refine wpF_step (op_callAt (d := (some 57)) (by kernel_rfl) (c_Rot 1 ((1 : Nat) : Int) _ (by omega)) ?_)
  rintro _ _ ⟨rfl, rfl⟩
  rw [show rot 1 ((1 : Nat) : Int) = 2 from by decide]
  refine wpF_run 3 [(60, (.bool false)), (59, (.bool false)), (58, (.bool false))] (by kernel_rfl) ?_
  refine wpF_step (op_callAt (d := (some 61)) (by kernel_rfl) (c_Rot 2147483648 ((1 : Nat) : Int) _ (by omega)) ?_)
  rintro _ _ ⟨rfl, rfl⟩
  rw [show rot 2147483648 ((1 : Nat) : Int) = 1 from by decide]
  refine wpF_run 3 [(64, (.bool false)), (63, (.bool false)), (62, (.bool false))] (by kernel_rfl) ?_
  refine wpF_step (op_callAt (d := (some 65)) (by kernel_rfl) (c_Rot 1 (-1) _ (by omega)) ?_)
  rintro _ _ ⟨rfl, rfl⟩
  rw [show rot 1 (-1) = 2147483648 from by decide]
  refine wpF_run 3 [(68, (.bool false)), (67, (.bool false)), (66, (.bool false))] (by kernel_rfl) ?_
  refine wpF_step (op_callAt (d := (some 69)) (by kernel_rfl) (c_Rot 5 ((64 : Nat) : Int) _ (by omega)) ?_)
  rintro _ _ ⟨rfl, rfl⟩
  rw [show rot 5 ((64 : Nat) : Int) = 5 from by decide]
  refine wpF_run 2 [(71, (.bool false)), (70, (.bool false))] (by kernel_rfl) ?_
  refine wpF_end (by kernel_rfl) ?_
  refine then_code ?_
  refine wpC_false (by kernel_rfl) ?_
  refine wpC_skip ?_
  refine then_code ?_
  refine wpC_seq ?_
  refine wpC_region ?_
  refine wpF_step (op_new (d := (some 73)) (s := Instr.buildSlice 23 2 #[(0, (.int .u8 ((15 : Nat) : Int))), (1, (.int .u8 ((240 : Nat) : Int)))]) (.slice (some ⟨w9.heap.size, 0, none⟩) 2 2) [(.int .u8 ((15 : Nat) : Int)), (.int .u8 ((240 : Nat) : Int))] 5 (by kernel_rfl) (by kernel_rfl) ?_)
  intro w10 hBw10 hEw10
  have hzw10 := hEw10.size; have hlw10 := hBw10.lt
  have hSw10 : Bs w9.heap.size (w9.heap.size + 1) w10 (some ⟨w9.heap.size, 0, none⟩) 2 2 [15, 240] := Bs.of_blk hBw10 (by kernel_rfl) rfl (Nat.le_refl _) (by decide) (Nat.le_refl _) (Nat.lt_succ_self _)
  refine wpF_step (op_new (d := (some 74)) (s := Instr.buildSlice 23 2 #[(0, (.int .u8 ((255 : Nat) : Int))), (1, (.int .u8 ((255 : Nat) : Int)))]) (.slice (some ⟨w10.heap.size, 0, none⟩) 2 2) [(.int .u8 ((255 : Nat) : Int)), (.int .u8 ((255 : Nat) : Int))] 5 (by kernel_rfl) (by kernel_rfl) ?_)
  intro w11 hBw11 hEw11
  have hzw11 := hEw11.size; have hlw11 := hBw11.lt
  have hSw11 : Bs w10.heap.size (w10.heap.size + 1) w11 (some ⟨w10.heap.size, 0, none⟩) 2 2 [255, 255] := Bs.of_blk hBw11 (by kernel_rfl) rfl (Nat.le_refl _) (by decide) (Nat.le_refl _) (Nat.lt_succ_self _)
  refine wpF_step (op_callAt (d := (some 75)) (by kernel_rfl) (c_Xor _ (hSw10.ext hEw11) hSw11 (rfl) (by decide)) ?_)
  rintro _ w12 ⟨a4, rfl, hFz14_0, hEw12⟩
  have hzw12 := hEw12.size
  refine wpF_run 5 [(8, (.int .i64 ((0 : Nat) : Int))), (7, (.slice a4 2 2)), (77, (.int .i64 ((0 : Nat) : Int))), (76, (.slice a4 2 2)), (72, (.tuple #[(.slice a4 2 2), (.int .i64 ((0 : Nat) : Int))]))] (by kernel_rfl) ?_
  refine wpF_end (by kernel_rfl) ?_
  refine then_code ?_
  refine wpC_seq ?_
  refine wpC_region ?_
  refine wpF_step (op_new (d := (some 79)) (s := Instr.buildSlice 23 1 #[(0, (.int .u8 ((1 : Nat) : Int)))]) (.slice (some ⟨w12.heap.size, 0, none⟩) 1 1) [(.int .u8 ((1 : Nat) : Int))] 5 (by kernel_rfl) (by kernel_rfl) ?_)
  intro w13 hBw13 hEw13
  have hzw13 := hEw13.size; have hlw13 := hBw13.lt
  have hSw13 : Bs w12.heap.size (w12.heap.size + 1) w13 (some ⟨w12.heap.size, 0, none⟩) 1 1 [1] := Bs.of_blk hBw13 (by kernel_rfl) rfl (Nat.le_refl _) (by decide) (Nat.le_refl _) (Nat.lt_succ_self _)
  refine wpF_step (op_callAt (d := (some 80)) (by kernel_rfl) (c_XorShort _ hSw13 (Bs.nil 0 0 _) (by decide)) ?_)
  rintro _ w14 ⟨rfl, hEw14⟩
  have hzw14 := hEw14.size
  refine wpF_run 5 [(10, (.int .i64 ((6 : Nat) : Int))), (9, (.slice none 0 0)), (82, (.int .i64 ((6 : Nat) : Int))), (81, (.slice none 0 0)), (78, (.tuple #[(.slice none 0 0), (.int .i64 ((6 : Nat) : Int))]))] (by kernel_rfl) ?_
  refine wpF_end (by kernel_rfl) ?_
  refine then_code ?_
  refine wpC_seq ?_
  refine wpC_region ?_
  refine wpF_step (op_new (d := (some 83)) (s := Instr.buildSlice 23 1 #[(0, (.int .u8 ((1 : Nat) : Int)))]) (.slice (some ⟨w14.heap.size, 0, none⟩) 1 1) [(.int .u8 ((1 : Nat) : Int))] 5 (by kernel_rfl) (by kernel_rfl) ?_)
  intro w15 hBw15 hEw15
  have hzw15 := hEw15.size; have hlw15 := hBw15.lt
  have hSw15 : Bs w14.heap.size (w14.heap.size + 1) w15 (some ⟨w14.heap.size, 0, none⟩) 1 1 [1] := Bs.of_blk hBw15 (by kernel_rfl) rfl (Nat.le_refl _) (by decide) (Nat.le_refl _) (Nat.lt_succ_self _)
  refine wpF_step (op_new (d := (some 84)) (s := Instr.buildSlice 23 2 #[(0, (.int .u8 ((2 : Nat) : Int))), (1, (.int .u8 ((3 : Nat) : Int)))]) (.slice (some ⟨w15.heap.size, 0, none⟩) 2 2) [(.int .u8 ((2 : Nat) : Int)), (.int .u8 ((3 : Nat) : Int))] 5 (by kernel_rfl) (by kernel_rfl) ?_)
  intro w16 hBw16 hEw16
  have hzw16 := hEw16.size; have hlw16 := hBw16.lt
  have hSw16 : Bs w15.heap.size (w15.heap.size + 1) w16 (some ⟨w15.heap.size, 0, none⟩) 2 2 [2, 3] := Bs.of_blk hBw16 (by kernel_rfl) rfl (Nat.le_refl _) (by decide) (Nat.le_refl _) (Nat.lt_succ_self _)
  refine wpF_step (op_new (d := (some 85)) (s := Instr.buildSlice 84 3 #[(0, (.slice (some ⟨w14.heap.size, 0, none⟩) 1 1)), (1, (.slice none 0 0)), (2, (.slice (some ⟨w15.heap.size, 0, none⟩) 2 2))]) (.slice (some ⟨w16.heap.size, 0, none⟩) 3 3) [(.slice (some ⟨w14.heap.size, 0, none⟩) 1 1), (.slice none 0 0), (.slice (some ⟨w15.heap.size, 0, none⟩) 2 2)] 23 (by kernel_rfl) (by kernel_rfl) ?_)
  intro w17 hBw17 hEw17
  have hzw17 := hEw17.size; have hlw17 := hBw17.lt
  have hSw17 : Ps 0 w17.heap.size w17 (some ⟨w16.heap.size, 0, none⟩) 3 3 [(.slice (some ⟨w14.heap.size, 0, none⟩) 1 1), (.slice none 0 0), (.slice (some ⟨w15.heap.size, 0, none⟩) 2 2)] [[1], [], [2, 3]] := Ps.of_new hBw17 rfl (by decide) (Parts.cons (Part.at (((hSw15.ext hEw16)).ext hEw17)) (Parts.cons (Part.nil _ _ _) (Parts.cons (Part.at (hSw16.ext hEw17)) Parts.nil)))
  refine wpF_step (op_callAt (d := (some 86)) (by kernel_rfl) (c_Join _ hSw17 (by simp [sumLen] <;> omega)) ?_)
  rintro _ w18 ⟨a5, rfl, hFz16_0, hFz16_1, hFz16_2, hFz16_3, hEw18⟩
  have hzw18 := hEw18.size
  have hla5 := hFz16_1.lt; have hna5 := hFz16_3
  have hSa5 : Bs a5 (a5 + 1) w18 (some ⟨a5, 0, none⟩) (sumLen ([[1], [], [2, 3]])) (sumLen ([[1], [], [2, 3]])) (([[1], [], [2, 3]]).flatten) := Bs.of_blk hFz16_1 rfl hFz16_2 (Nat.le_refl _) (le_maxLen hna5) (Nat.le_refl _) (Nat.lt_succ_self _)
  refine wpF_step (op_new (d := (some 87)) (s := Instr.buildSlice 23 3 #[(0, (.int .u8 ((1 : Nat) : Int))), (1, (.int .u8 ((2 : Nat) : Int))), (2, (.int .u8 ((3 : Nat) : Int)))]) (.slice (some ⟨w18.heap.size, 0, none⟩) 3 3) [(.int .u8 ((1 : Nat) : Int)), (.int .u8 ((2 : Nat) : Int)), (.int .u8 ((3 : Nat) : Int))] 5 (by kernel_rfl) (by kernel_rfl) ?_)
  intro w19 hBw19 hEw19
  have hzw19 := hEw19.size; have hlw19 := hBw19.lt
  have hSw19 : Bs w18.heap.size (w18.heap.size + 1) w19 (some ⟨w18.heap.size, 0, none⟩) 3 3 [1, 2, 3] := Bs.of_blk hBw19 (by kernel_rfl) rfl (Nat.le_refl _) (by decide) (Nat.le_refl _) (Nat.lt_succ_self _)
  refine wpF_step (op_callAt (d := (some 88)) (by kernel_rfl) (c_same1 0 0 _ (hSa5.ext hEw19) hSw19 (rfl) (by first | rfl | assumption) (rfl)) ?_)
  rintro _ _ ⟨rfl, rfl⟩
  refine wpF_run 1 [(89, (.bool true))] (by kernel_rfl) ?_
  refine wpF_step (op_callAt (d := (some 90)) (by kernel_rfl) (c_Join _ (Ps.nil 0 0 _) (by simp [sumLen] <;> omega)) ?_)
  rintro _ w20 ⟨a6, rfl, hFz18_0, hFz18_1, hFz18_2, hFz18_3, hEw20⟩
  have hzw20 := hEw20.size
  have hla6 := hFz18_1.lt; have hna6 := hFz18_3
  have hSa6 : Bs a6 (a6 + 1) w20 (some ⟨a6, 0, none⟩) (sumLen ([])) (sumLen ([])) (([]).flatten) := Bs.of_blk hFz18_1 rfl hFz18_2 (Nat.le_refl _) (le_maxLen hna6) (Nat.le_refl _) (Nat.lt_succ_self _)
  refine wpF_step (op_callAt (d := (some 91)) (by kernel_rfl) (c_same1 0 0 _ hSa6 (Bs.nil 0 0 _) (rfl) (by first | rfl | assumption) (rfl)) ?_)
  rintro _ _ ⟨rfl, rfl⟩
  refine wpF_run 4 [(95, (.int .i64 ((0 : Nat) : Int))), (94, (.slice a4 2 2)), (93, (.bool true)), (92, (.bool true))] (by kernel_rfl) ?_
  refine wpF_step (op_new (d := (some 96)) (s := Instr.buildSlice 23 2 #[(0, (.int .u8 ((240 : Nat) : Int))), (1, (.int .u8 ((15 : Nat) : Int)))]) (.slice (some ⟨w20.heap.size, 0, none⟩) 2 2) [(.int .u8 ((240 : Nat) : Int)), (.int .u8 ((15 : Nat) : Int))] 5 (by kernel_rfl) (by kernel_rfl) ?_)
  intro w21 hBw21 hEw21
  have hzw21 := hEw21.size; have hlw21 := hBw21.lt
  have hSw21 : Bs w20.heap.size (w20.heap.size + 1) w21 (some ⟨w20.heap.size, 0, none⟩) 2 2 [240, 15] := Bs.of_blk hBw21 (by kernel_rfl) rfl (Nat.le_refl _) (by decide) (Nat.le_refl _) (Nat.lt_succ_self _)
  refine wpF_step (op_callAt (d := (some 97)) (by kernel_rfl) (c_same1 0 0 _ (((((((((((((((((hFz14_0.ext hEw13)).ext hEw14)).ext hEw15)).ext hEw16)).ext hEw17)).ext hEw18)).ext hEw19)).ext hEw20)).ext hEw21) hSw21 (rfl) (by first | rfl | assumption) (rfl)) ?_)
  rintro _ _ ⟨rfl, rfl⟩
  refine wpF_run 4 [(101, (.int .i64 ((6 : Nat) : Int))), (100, (.slice none 0 0)), (99, (.bool true)), (98, (.bool true))] (by kernel_rfl) ?_
  refine wpF_step (op_callAt (d := (some 102)) (by kernel_rfl) (c_same1 6 6 _ (Bs.nil 0 0 _) (Bs.nil 0 0 _) (rfl) (by first | rfl | assumption) (rfl)) ?_)
  rintro _ _ ⟨rfl, rfl⟩
  refine wpF_run 2 [(0, (.bool true)), (103, (.bool true))] (by kernel_rfl) ?_
  refine wpF_end (by kernel_rfl) ?_
  refine then_code ?_
  refine wpC_ret ?_
  refine body_ret1 (by kernel_rfl) (show resVal Try.prog 104 _ _ (.tmp 0) (.bool true) by (show _ = _; kernel_rfl)) ?_
  exact ⟨rfl, ((((((((((((((((((((hEw1.trans hEw2).trans hEw3).trans hEw4).trans hEw5).trans hEw6).trans hEw7).trans hEw8).trans hEw9).trans hEw10).trans hEw11).trans hEw12).trans hEw13).trans hEw14).trans hEw15).trans hEw16).trans hEw17).trans hEw18).trans hEw19).trans hEw20).trans hEw21)⟩

theorem c_WordsNumbers (v : Nat) (y : Nat)  (w : World) (hp0 : v < 2 ^ 64) (hp1 : y < 2 ^ 64) :
    Calls Try.prog 3 #[(.int .u64 ((v : Nat) : Int)), (.int .u64 ((y : Nat) : Int))] w (Ret fun r w' => r = (.bool true) ∧ Ext w w') := by
  refine calls_of (n := 101) (σ := [(0, (.int .u64 ((v : Nat) : Int))), (1, (.int .u64 ((y : Nat) : Int)))]) Try.func3 rfl (by kernel_rfl) ?_
  refine wpC_seq ?_
  refine wpC_region ?_
  refine wpF_run 1 [(4, (.bool false))] (by kernel_rfl) ?_
  refine wpF_end (by kernel_rfl) ?_
  refine then_code ?_
  refine wpC_seq ?_
  refine wpC_region ?_
  refine wpF_run 1 [(12, (.int .u64 ((v : Nat) : Int)))] (by kernel_rfl) ?_
  refine wpF_step (op_callAt (d := (some 13)) (by kernel_rfl) (c_Put64 v _) ?_)
  rintro _ w1 ⟨a1, rfl, hFz1_0, hEw1⟩
  have hzw1 := hEw1.size
  refine wpF_run 1 [(14, (.int .u64 ((y : Nat) : Int)))] (by kernel_rfl) ?_
  refine wpF_step (op_callAt (d := (some 15)) (by kernel_rfl) (c_Put64 y _) ?_)
  rintro _ w2 ⟨a2, rfl, hFz2_0, hEw2⟩
  have hzw2 := hEw2.size
  refine wpF_run 2 [(6, (.slice a2 8 8)), (5, (.slice a1 8 8))] (by kernel_rfl) ?_
  refine wpF_end (by kernel_rfl) ?_
  refine then_code ?_
  refine wpC_seq ?_
  refine wpC_region ?_
  refine wpF_run 1 [(17, (.slice a1 8 8))] (by kernel_rfl) ?_
  refine wpF_step (op_callAt (d := (some 18)) (by kernel_rfl) (c_Get64 _ (hFz1_0.ext hEw2)) ?_)
  rintro _ _ ⟨rfl, rfl⟩
  rw [show getV (be v 8) 8 = v from getV_be8 hp0]
  rw [show getE (be v 8) 8 = 0 from getE_be _ _]
  refine wpF_run 5 [(8, (.int .i64 ((0 : Nat) : Int))), (7, (.int .u64 ((v : Nat) : Int))), (20, (.int .i64 ((0 : Nat) : Int))), (19, (.int .u64 ((v : Nat) : Int))), (16, (.tuple #[(.int .u64 ((v : Nat) : Int)), (.int .i64 ((0 : Nat) : Int))]))] (by kernel_rfl) ?_
  refine wpF_end (by kernel_rfl) ?_
  refine then_code ?_
  refine wpC_seq ?_
  refine wpC_region ?_
  refine wpF_run 1 [(22, (.int .u64 ((v : Nat) : Int)))] (by kernel_rfl) ?_
  refine wpF_step (op_eqv (d := (some 23)) (.int .u32 (IntKind.u32.wrap ((v : Nat) : Int))) (.int .u32 ((v % 2 ^ 32 : Nat) : Int)) (by kernel_rfl) (congrArg (Value.int .u32) (wrapU rfl rfl)) ?_)
  refine wpF_step (op_callAt (d := (some 24)) (by kernel_rfl) (c_Put32 (v % 2 ^ 32) _ (by omega)) ?_)
  rintro _ w3 ⟨a3, rfl, hFz4_0, hEw3⟩
  have hzw3 := hEw3.size
  refine wpF_step (op_callAt (d := (some 25)) (by kernel_rfl) (c_Get32 _ hFz4_0) ?_)
  rintro _ _ ⟨rfl, rfl⟩
  rw [show getV (be (v % 2 ^ 32) 4) 4 = v % 2 ^ 32 from getV_be4 (by omega)]
  rw [show getE (be (v % 2 ^ 32) 4) 4 = 0 from getE_be _ _]
  refine wpF_run 5 [(10, (.int .i64 ((0 : Nat) : Int))), (9, (.int .u32 ((v % 2 ^ 32 : Nat) : Int))), (27, (.int .i64 ((0 : Nat) : Int))), (26, (.int .u32 ((v % 2 ^ 32 : Nat) : Int))), (21, (.tuple #[(.int .u32 ((v % 2 ^ 32 : Nat) : Int)), (.int .i64 ((0 : Nat) : Int))]))] (by kernel_rfl) ?_
  refine wpF_end (by kernel_rfl) ?_
  refine then_code ?_
  refine wpC_seq ?_
  refine wpC_seq ?_
  refine wpC_region ?_
  refine wpF_run 2 [(29, (.int .u64 ((v : Nat) : Int))), (28, (.slice a1 8 8))] (by kernel_rfl) ?_
  refine wpF_step (op_callAt (d := (some 30)) (by kernel_rfl) (c_rPut64 v _ (by omega)) ?_)
  rintro _ w4 ⟨a4, rfl, hFz6_0, hEw4⟩
  have hzw4 := hEw4.size
  refine wpF_step (op_callAt (d := (some 31)) (by kernel_rfl) (c_same1 0 0 _ (((((hFz1_0.ext hEw2)).ext hEw3)).ext hEw4) hFz6_0 (rfl) (by first | rfl | assumption) (rfl)) ?_)
  rintro _ _ ⟨rfl, rfl⟩
  refine wpF_run 3 [(34, (.int .u64 ((v : Nat) : Int))), (33, (.bool false)), (32, (.bool false))] (by kernel_rfl) ?_
  refine wpF_step (op_eqv (d := (some 35)) (.int .u32 (IntKind.u32.wrap ((v : Nat) : Int))) (.int .u32 ((v % 2 ^ 32 : Nat) : Int)) (by kernel_rfl) (congrArg (Value.int .u32) (wrapU rfl rfl)) ?_)
  refine wpF_step (op_callAt (d := (some 36)) (by kernel_rfl) (c_Put32 (v % 2 ^ 32) _ (by omega)) ?_)
  rintro _ w5 ⟨a5, rfl, hFz8_0, hEw5⟩
  have hzw5 := hEw5.size
  refine wpF_run 1 [(37, (.int .u64 ((v : Nat) : Int)))] (by kernel_rfl) ?_
  refine wpF_step (op_eqv (d := (some 38)) (.int .u32 (IntKind.u32.wrap ((v : Nat) : Int))) (.int .u32 ((v % 2 ^ 32 : Nat) : Int)) (by kernel_rfl) (congrArg (Value.int .u32) (wrapU rfl rfl)) ?_)
  refine wpF_step (op_callAt (d := (some 39)) (by kernel_rfl) (c_rPut32 (v % 2 ^ 32) _ (by omega)) ?_)
  rintro _ w6 ⟨a6, rfl, hFz9_0, hEw6⟩
  have hzw6 := hEw6.size
  refine wpF_step (op_callAt (d := (some 40)) (by kernel_rfl) (c_same1 0 0 _ (hFz8_0.ext hEw6) hFz9_0 (rfl) (by first | rfl | assumption) (rfl)) ?_)
  rintro _ _ ⟨rfl, rfl⟩
  refine wpF_run 5 [(45, (.int .u64 ((v : Nat) : Int))), (44, (.int .u64 ((v : Nat) : Int))), (43, (.bool false)), (42, (.bool false)), (41, (.bool false))] (by kernel_rfl) ?_
  refine wpF_step (op_eqv (d := (some 46)) (.bool ((((v : Nat) : Int) != ((v : Nat) : Int)))) (.bool false) (by kernel_rfl) (congrArg Value.bool (cmpNeF (by first | rfl | omega))) ?_)
  refine wpF_run 8 [(54, (.int .u64 ((v : Nat) : Int))), (53, (.int .u32 ((v % 2 ^ 32 : Nat) : Int))), (52, (.bool false)), (51, (.bool false)), (50, (.bool false)), (49, (.int .i64 ((0 : Nat) : Int))), (48, (.bool false)), (47, (.bool false))] (by kernel_rfl) ?_
  refine wpF_step (op_eqv (d := (some 55)) (.int .u32 (IntKind.u32.wrap ((v : Nat) : Int))) (.int .u32 ((v % 2 ^ 32 : Nat) : Int)) (by kernel_rfl) (congrArg (Value.int .u32) (wrapU rfl rfl)) ?_)
  refine wpF_step (op_eqv (d := (some 56)) (.bool ((((v % 2 ^ 32 : Nat) : Int) != ((v % 2 ^ 32 : Nat) : Int)))) (.bool false) (by kernel_rfl) (congrArg Value.bool (cmpNeF (by first | rfl | omega))) ?_)
  refine wpF_run 5 [(61, (.bool false)), (60, (.bool false)), (59, (.int .i64 ((0 : Nat) : Int))), (58, (.bool false)), (57, (.bool false))] (by kernel_rfl) ?_
  refine wpF_end (by kernel_rfl) ?_
  refine then_code ?_
  refine wpC_false (by kernel_rfl) ?_
  refine wpC_skip ?_
  refine then_code ?_
  refine wpC_seq ?_
  refine wpC_region ?_
  refine wpF_run 1 [(62, (.int .u64 ((v : Nat) : Int)))] (by kernel_rfl) ?_
  refine wpF_step (op_eqv (d := (some 63)) (.int .u64 (((v : Nat) : Int).fdiv (2 ^ 32))) (.int .u64 ((v / 2 ^ 32 : Nat) : Int)) (by kernel_rfl) (congrArg (Value.int .u64) (fdivN _ _)) ?_)
  refine wpF_step (op_eqv (d := (some 64)) (.int .u32 (IntKind.u32.wrap ((v / 2 ^ 32 : Nat) : Int))) (.int .u32 (((v / 2 ^ 32) % 2 ^ 32 : Nat) : Int)) (by kernel_rfl) (congrArg (Value.int .u32) (wrapU rfl rfl)) ?_)
  refine wpF_step (op_callAt (d := (some 65)) (by kernel_rfl) (c_Put32 ((v / 2 ^ 32) % 2 ^ 32) _ (by omega)) ?_)
  rintro _ w7 ⟨a7, rfl, hFz11_0, hEw7⟩
  have hzw7 := hEw7.size
  refine wpF_run 1 [(66, (.int .u64 ((v : Nat) : Int)))] (by kernel_rfl) ?_
  refine wpF_step (op_eqv (d := (some 67)) (.int .u32 (IntKind.u32.wrap ((v : Nat) : Int))) (.int .u32 ((v % 2 ^ 32 : Nat) : Int)) (by kernel_rfl) (congrArg (Value.int .u32) (wrapU rfl rfl)) ?_)
  refine wpF_step (op_callAt (d := (some 68)) (by kernel_rfl) (c_Put32 (v % 2 ^ 32) _ (by omega)) ?_)
  rintro _ w8 ⟨a8, rfl, hFz12_0, hEw8⟩
  have hzw8 := hEw8.size
  refine wpF_step (op_new (d := (some 69)) (s := Instr.buildSlice 84 2 #[(0, (.slice a7 4 4)), (1, (.slice a8 4 4))]) (.slice (some ⟨w8.heap.size, 0, none⟩) 2 2) [(.slice a7 4 4), (.slice a8 4 4)] 23 (by kernel_rfl) (by kernel_rfl) ?_)
  intro w9 hBw9 hEw9
  have hzw9 := hEw9.size; have hlw9 := hBw9.lt
  have hSw9 : Ps 0 w9.heap.size w9 (some ⟨w8.heap.size, 0, none⟩) 2 2 [(.slice a7 4 4), (.slice a8 4 4)] [be ((v / 2 ^ 32) % 2 ^ 32) 4, be (v % 2 ^ 32) 4] := Ps.of_new hBw9 rfl (by decide) (Parts.cons (Part.at (((hFz11_0.ext hEw8)).ext hEw9)) (Parts.cons (Part.at (hFz12_0.ext hEw9)) Parts.nil))
  refine wpF_step (op_callAt (d := (some 70)) (by kernel_rfl) (c_Join _ hSw9 (by simp [sumLen])) ?_)
  rintro _ w10 ⟨a9, rfl, hFz13_0, hFz13_1, hFz13_2, hFz13_3, hEw10⟩
  have hzw10 := hEw10.size
  have hla9 := hFz13_1.lt; have hna9 := hFz13_3
  have hSa9 : Bs a9 (a9 + 1) w10 (some ⟨a9, 0, none⟩) (sumLen ([be ((v / 2 ^ 32) % 2 ^ 32) 4, be (v % 2 ^ 32) 4])) (sumLen ([be ((v / 2 ^ 32) % 2 ^ 32) 4, be (v % 2 ^ 32) 4])) (([be ((v / 2 ^ 32) % 2 ^ 32) 4, be (v % 2 ^ 32) 4]).flatten) := Bs.of_blk hFz13_1 rfl hFz13_2 (Nat.le_refl _) (le_maxLen hna9) (Nat.le_refl _) (Nat.lt_succ_self _)
  refine wpF_run 1 [(11, (.slice (some ⟨a9, 0, none⟩) (sumLen ([be ((v / 2 ^ 32) % 2 ^ 32) 4, be (v % 2 ^ 32) 4])) (sumLen ([be ((v / 2 ^ 32) % 2 ^ 32) 4, be (v % 2 ^ 32) 4]))))] (by kernel_rfl) ?_
  refine wpF_end (by kernel_rfl) ?_
  refine then_code ?_
  refine wpC_seq ?_
  refine wpC_region ?_
  refine wpF_run 1 [(71, (.slice (some ⟨a9, 0, none⟩) (sumLen ([be ((v / 2 ^ 32) % 2 ^ 32) 4, be (v % 2 ^ 32) 4])) (sumLen ([be ((v / 2 ^ 32) % 2 ^ 32) 4, be (v % 2 ^ 32) 4]))))] (by kernel_rfl) ?_
  refine wpF_step (op_v (d := (some 72)) (s := convert 23 9 (.slice (some ⟨a9, 0, none⟩) (sumLen ([be ((v / 2 ^ 32) % 2 ^ 32) 4, be (v % 2 ^ 32) 4])) (sumLen ([be ((v / 2 ^ 32) % 2 ^ 32) 4, be (v % 2 ^ 32) 4])))) (v := (.string ⟨(([be ((v / 2 ^ 32) % 2 ^ 32) 4, be (v % 2 ^ 32) 4]).flatten).toArray⟩)) (by kernel_rfl) (run_string (E := 5) (by kernel_rfl) (by kernel_rfl) (by kernel_rfl) hSa9) ?_)
  refine wpF_run 1 [(73, (.slice a1 8 8))] (by kernel_rfl) ?_
  refine wpF_step (op_v (d := (some 74)) (s := convert 23 9 (.slice a1 8 8)) (v := (.string ⟨(be v 8).toArray⟩)) (by kernel_rfl) (run_string (E := 5) (by kernel_rfl) (by kernel_rfl) (by kernel_rfl) (((((((((((((((((hFz1_0.ext hEw2)).ext hEw3)).ext hEw4)).ext hEw5)).ext hEw6)).ext hEw7)).ext hEw8)).ext hEw9)).ext hEw10)) ?_)
  refine wpF_step (op_eqv (d := (some 75)) (.bool ((⟨(([be ((v / 2 ^ 32) % 2 ^ 32) 4, be (v % 2 ^ 32) 4]).flatten).toArray⟩ : ByteArray).toList == (⟨(be v 8).toArray⟩ : ByteArray).toList)) (.bool true) (by kernel_rfl) (congrArg Value.bool (strT (by rw [Nat.mod_eq_of_lt (show v / 2 ^ 32 < 2 ^ 32 from by omega)]; simp only [List.flatten_cons, List.flatten_nil, List.append_nil]; exact be_halves v))) ?_)
  refine wpF_run 3 [(78, (.int .u64 ((y : Nat) : Int))), (77, (.int .u64 ((v : Nat) : Int))), (76, (.bool true))] (by kernel_rfl) ?_
  refine wpF_step (op_eqv (d := (some 79)) (.bool (decide (((v : Nat) : Int) < ((y : Nat) : Int)))) (.bool (decide (((v : Nat) : Int) < ((y : Nat) : Int)))) (by kernel_rfl) (rfl) ?_)
  refine wpF_run 1 [(80, (.slice a1 8 8))] (by kernel_rfl) ?_
  refine wpF_step (op_v (d := (some 81)) (s := convert 23 9 (.slice a1 8 8)) (v := (.string ⟨(be v 8).toArray⟩)) (by kernel_rfl) (run_string (E := 5) (by kernel_rfl) (by kernel_rfl) (by kernel_rfl) (((((((((((((((((hFz1_0.ext hEw2)).ext hEw3)).ext hEw4)).ext hEw5)).ext hEw6)).ext hEw7)).ext hEw8)).ext hEw9)).ext hEw10)) ?_)
  refine wpF_run 1 [(82, (.slice a2 8 8))] (by kernel_rfl) ?_
  refine wpF_step (op_v (d := (some 83)) (s := convert 23 9 (.slice a2 8 8)) (v := (.string ⟨(be y 8).toArray⟩)) (by kernel_rfl) (run_string (E := 5) (by kernel_rfl) (by kernel_rfl) (by kernel_rfl) (((((((((((((((hFz2_0.ext hEw3)).ext hEw4)).ext hEw5)).ext hEw6)).ext hEw7)).ext hEw8)).ext hEw9)).ext hEw10)) ?_)
  refine wpF_step (op_eqv (d := (some 84)) (.bool (Op.bytesLess (⟨(be v 8).toArray⟩ : ByteArray).toList (⟨(be y 8).toArray⟩ : ByteArray).toList)) (.bool (Op.bytesLess (be v 8) (be y 8))) (by kernel_rfl) (congrArg Value.bool (by rw [ByteArray.toList_mk, ByteArray.toList_mk])) ?_)
  refine wpF_step (op_eqv (d := (some 85)) (.bool ((decide (((v : Nat) : Int) < ((y : Nat) : Int)) == Op.bytesLess (be v 8) (be y 8)))) (.bool true) (by kernel_rfl) (congrArg Value.bool (by rw [less_be 8 v y (by omega) (by omega)]; simp)) ?_)
  refine wpF_run 4 [(89, (.int .u64 ((y : Nat) : Int))), (88, (.int .u64 ((v : Nat) : Int))), (87, (.bool true)), (86, (.bool true))] (by kernel_rfl) ?_
  refine wpF_step (op_eqv (d := (some 90)) (.bool ((((v : Nat) : Int) == ((y : Nat) : Int)))) (.bool (((v : Nat) : Int) == ((y : Nat) : Int))) (by kernel_rfl) (rfl) ?_)
  refine wpF_run 1 [(91, (.slice a1 8 8))] (by kernel_rfl) ?_
  refine wpF_step (op_v (d := (some 92)) (s := convert 23 9 (.slice a1 8 8)) (v := (.string ⟨(be v 8).toArray⟩)) (by kernel_rfl) (run_string (E := 5) (by kernel_rfl) (by kernel_rfl) (by kernel_rfl) (((((((((((((((((hFz1_0.ext hEw2)).ext hEw3)).ext hEw4)).ext hEw5)).ext hEw6)).ext hEw7)).ext hEw8)).ext hEw9)).ext hEw10)) ?_)
  refine wpF_run 1 [(93, (.slice a2 8 8))] (by kernel_rfl) ?_
  refine wpF_step (op_v (d := (some 94)) (s := convert 23 9 (.slice a2 8 8)) (v := (.string ⟨(be y 8).toArray⟩)) (by kernel_rfl) (run_string (E := 5) (by kernel_rfl) (by kernel_rfl) (by kernel_rfl) (((((((((((((((hFz2_0.ext hEw3)).ext hEw4)).ext hEw5)).ext hEw6)).ext hEw7)).ext hEw8)).ext hEw9)).ext hEw10)) ?_)
  refine wpF_step (op_eqv (d := (some 95)) (.bool ((⟨(be v 8).toArray⟩ : ByteArray).toList == (⟨(be y 8).toArray⟩ : ByteArray).toList)) (.bool (decide (be v 8 = be y 8))) (by kernel_rfl) (congrArg Value.bool (str_eq _ _)) ?_)
  refine wpF_step (op_eqv (d := (some 96)) (.bool (((((v : Nat) : Int) == ((y : Nat) : Int)) == decide (be v 8 = be y 8)))) (.bool true) (by kernel_rfl) (congrArg Value.bool (by have hi := be_inj (v := v) (w := y) (n := 8) (by omega) (by omega); rw [beq_iff_eq, Bool.eq_iff_iff, beq_iff_eq, decide_eq_true_iff, hi]; omega)) ?_)
  refine wpF_run 2 [(98, (.bool true)), (97, (.bool true))] (by kernel_rfl) ?_
  refine wpF_step (op_callAt (d := (some 99)) (by kernel_rfl) (c_lives1 _) ?_)
  rintro _ w11 ⟨rfl, hEw11⟩
  have hzw11 := hEw11.size
  refine wpF_run 2 [(4, (.bool true)), (100, (.bool true))] (by kernel_rfl) ?_
  refine wpF_end (by kernel_rfl) ?_
  refine then_code ?_
  refine wpC_ret ?_
  refine body_ret1 (by kernel_rfl) (show resVal Try.prog 101 _ _ (.tmp 4) (.bool true) by (show _ = _; kernel_rfl)) ?_
  exact ⟨rfl, ((((((((((hEw1.trans hEw2).trans hEw3).trans hEw4).trans hEw5).trans hEw6).trans hEw7).trans hEw8).trans hEw9).trans hEw10).trans hEw11)⟩

theorem c_WordsRot (v : Nat) (m : Int) (n : Int)  (w : World) (hp0 : v < 2 ^ 32) (hp1 : -9223372036854775808 ≤ m ∧ m ≤ 9223372036854775807) (hp2 : -9223372036854775808 ≤ n ∧ n ≤ 9223372036854775807) :
    Calls Try.prog 5 #[(.int .u32 ((v : Nat) : Int)), (.int .i64 m), (.int .i64 n)] w (Ret fun r w' => r = (.bool true) ∧ Ext w w') := by
  refine calls_of (n := 54) (σ := [(0, (.int .u32 ((v : Nat) : Int))), (1, (.int .i64 m)), (2, (.int .i64 n))]) Try.func5 rfl (by kernel_rfl) ?_
  have htm := tmod1000 m
  have htn := tmod1000 n
  refine wpC_seq ?_
  refine wpC_region ?_
  refine wpF_run 1 [(6, (.bool false))] (by kernel_rfl) ?_
  refine wpF_end (by kernel_rfl) ?_
  refine then_code ?_
  refine wpC_seq ?_
  refine wpC_seq ?_
  refine wpC_region ?_
  refine wpF_run 2 [(8, (.int .i64 n)), (7, (.int .u32 ((v : Nat) : Int)))] (by kernel_rfl) ?_
  refine wpF_step (op_callAt (d := (some 9)) (by kernel_rfl) (c_Rot v n _ (by omega)) ?_)
  rintro _ _ ⟨rfl, rfl⟩
  refine wpF_run 2 [(11, (.int .i64 n)), (10, (.int .u32 ((v : Nat) : Int)))] (by kernel_rfl) ?_
  refine wpF_step (op_callAt (d := (some 12)) (by kernel_rfl) (c_rRot v n _ (by omega)) ?_)
  rintro _ w1 ⟨rfl, hEw1⟩
  have hzw1 := hEw1.size
  rw [show bnum ((bitsTo v 32).drop (n % 32).toNat ++ (bitsTo v 32).take (n % 32).toNat) = rot v n from rot_ref hp0]
  refine wpF_step (op_eqv (d := (some 13)) (.bool ((((rot v n : Nat) : Int) != ((rot v n : Nat) : Int)))) (.bool false) (by kernel_rfl) (congrArg Value.bool (cmpNeF (by rfl))) ?_)
  refine wpF_run 2 [(15, (.int .u32 ((v : Nat) : Int))), (14, (.bool false))] (by kernel_rfl) ?_
  refine wpF_step (op_callAt (d := (some 16)) (by kernel_rfl) (c_Rot v ((32 : Nat) : Int) _ (by omega)) ?_)
  rintro _ _ ⟨rfl, rfl⟩
  rw [show rot v ((32 : Nat) : Int) = v from rot_zero (by decide) hp0]
  refine wpF_run 1 [(17, (.int .u32 ((v : Nat) : Int)))] (by kernel_rfl) ?_
  refine wpF_step (op_eqv (d := (some 18)) (.bool ((((v : Nat) : Int) != ((v : Nat) : Int)))) (.bool false) (by kernel_rfl) (congrArg Value.bool (cmpNeF (by rfl))) ?_)
  refine wpF_run 3 [(21, (.int .u32 ((v : Nat) : Int))), (20, (.bool false)), (19, (.bool false))] (by kernel_rfl) ?_
  refine wpF_step (op_callAt (d := (some 22)) (by kernel_rfl) (c_Rot v ((0 : Nat) : Int) _ (by omega)) ?_)
  rintro _ _ ⟨rfl, rfl⟩
  rw [show rot v ((0 : Nat) : Int) = v from rot_zero (by decide) hp0]
  refine wpF_run 1 [(23, (.int .u32 ((v : Nat) : Int)))] (by kernel_rfl) ?_
  refine wpF_step (op_eqv (d := (some 24)) (.bool ((((v : Nat) : Int) != ((v : Nat) : Int)))) (.bool false) (by kernel_rfl) (congrArg Value.bool (cmpNeF (by rfl))) ?_)
  refine wpF_run 1 [(25, (.bool false))] (by kernel_rfl) ?_
  refine wpF_end (by kernel_rfl) ?_
  refine then_code ?_
  refine wpC_false (by kernel_rfl) ?_
  refine wpC_skip ?_
  refine then_code ?_
  refine wpC_seq ?_
  refine wpC_region ?_
  refine wpF_run 1 [(26, (.int .i64 m))] (by kernel_rfl) ?_
  refine wpF_step (op_eqv (d := (some 27)) (.int .i64 (m.tmod ((1000 : Nat) : Int))) (.int .i64 (m.tmod 1000)) (by kernel_rfl) (congrArg (Value.int .i64) (rfl)) ?_)
  refine wpF_run 1 [(28, (.int .i64 n))] (by kernel_rfl) ?_
  refine wpF_step (op_eqv (d := (some 29)) (.int .i64 (n.tmod ((1000 : Nat) : Int))) (.int .i64 (n.tmod 1000)) (by kernel_rfl) (congrArg (Value.int .i64) (rfl)) ?_)
  refine wpF_run 2 [(2, (.int .i64 (n.tmod 1000))), (1, (.int .i64 (m.tmod 1000)))] (by kernel_rfl) ?_
  refine wpF_end (by kernel_rfl) ?_
  refine then_code ?_
  refine wpC_seq ?_
  refine wpC_region ?_
  refine wpF_run 2 [(31, (.int .i64 (m.tmod 1000))), (30, (.int .u32 ((v : Nat) : Int)))] (by kernel_rfl) ?_
  refine wpF_step (op_callAt (d := (some 32)) (by kernel_rfl) (c_Rot v (m.tmod 1000) _ (by omega)) ?_)
  rintro _ _ ⟨rfl, rfl⟩
  refine wpF_run 1 [(33, (.int .i64 (n.tmod 1000)))] (by kernel_rfl) ?_
  refine wpF_step (op_callAt (d := (some 34)) (by kernel_rfl) (c_Rot (rot v (m.tmod 1000)) (n.tmod 1000) _ (rot_lt hp0)) ?_)
  rintro _ _ ⟨rfl, rfl⟩
  rw [show rot (rot v (m.tmod 1000)) (n.tmod 1000) = rot v (m.tmod 1000 + n.tmod 1000) from rot_rot _ _ hp0]
  refine wpF_run 3 [(37, (.int .i64 (n.tmod 1000))), (36, (.int .i64 (m.tmod 1000))), (35, (.int .u32 ((v : Nat) : Int)))] (by kernel_rfl) ?_
  refine wpF_step (op_eqv (d := (some 38)) (.int .i64 (IntKind.i64.wrap ((m.tmod 1000) + (n.tmod 1000)))) (.int .i64 ((m.tmod 1000) + (n.tmod 1000))) (by kernel_rfl) (congrArg (Value.int .i64) (wrapS rfl (by omega) (by omega))) ?_)
  refine wpF_step (op_callAt (d := (some 39)) (by kernel_rfl) (c_Rot v ((m.tmod 1000) + (n.tmod 1000)) _ (by omega)) ?_)
  rintro _ _ ⟨rfl, rfl⟩
  refine wpF_step (op_eqv (d := (some 40)) (.bool ((((rot v (m.tmod 1000 + n.tmod 1000) : Nat) : Int) == ((rot v ((m.tmod 1000) + (n.tmod 1000)) : Nat) : Int)))) (.bool true) (by kernel_rfl) (congrArg Value.bool (cmpEqT (by rfl))) ?_)
  refine wpF_run 3 [(43, (.int .i64 (m.tmod 1000))), (42, (.int .u32 ((v : Nat) : Int))), (41, (.bool true))] (by kernel_rfl) ?_
  refine wpF_step (op_callAt (d := (some 44)) (by kernel_rfl) (c_Rot v (m.tmod 1000) _ (by omega)) ?_)
  rintro _ _ ⟨rfl, rfl⟩
  refine wpF_run 1 [(45, (.int .i64 (m.tmod 1000)))] (by kernel_rfl) ?_
  refine wpF_step (op_eqv (d := (some 46)) (.int .i64 (IntKind.i64.wrap (0 - (m.tmod 1000)))) (.int .i64 (-(m.tmod 1000))) (by kernel_rfl) (congrArg (Value.int .i64) (wrapS (by omega) (by omega) (by omega))) ?_)
  refine wpF_step (op_callAt (d := (some 47)) (by kernel_rfl) (c_Rot (rot v (m.tmod 1000)) (-(m.tmod 1000)) _ (rot_lt hp0)) ?_)
  rintro _ _ ⟨rfl, rfl⟩
  rw [show rot (rot v (m.tmod 1000)) (-(m.tmod 1000)) = v from (rot_rot _ _ hp0).trans (rot_zero (by omega) hp0)]
  refine wpF_run 1 [(48, (.int .u32 ((v : Nat) : Int)))] (by kernel_rfl) ?_
  refine wpF_step (op_eqv (d := (some 49)) (.bool ((((v : Nat) : Int) == ((v : Nat) : Int)))) (.bool true) (by kernel_rfl) (congrArg Value.bool (cmpEqT (by rfl))) ?_)
  refine wpF_run 2 [(51, (.bool true)), (50, (.bool true))] (by kernel_rfl) ?_
  refine wpF_step (op_callAt (d := (some 52)) (by kernel_rfl) (c_lives1 _) ?_)
  rintro _ w2 ⟨rfl, hEw2⟩
  have hzw2 := hEw2.size
  refine wpF_run 2 [(6, (.bool true)), (53, (.bool true))] (by kernel_rfl) ?_
  refine wpF_end (by kernel_rfl) ?_
  refine then_code ?_
  refine wpC_ret ?_
  refine body_ret1 (by kernel_rfl) (show resVal Try.prog 54 _ _ (.tmp 6) (.bool true) by (show _ = _; kernel_rfl)) ?_
  exact ⟨rfl, (hEw1.trans hEw2)⟩

theorem c_WordsGet0 {lo_l hi_l : Nat} {a_l : Option Addr} {n_l c_l : Nat} {l : List UInt8}  (w : World) (h_l : Bs lo_l hi_l w a_l n_l c_l l) (hp0 : 12 < n_l) :
    Calls Try.prog 4 #[(.slice a_l n_l c_l)] w (Ret fun r w' => r = (.bool true) ∧ Ext w w') := by
  refine calls_of (n := 81) (σ := [(0, (.slice a_l n_l c_l))]) Try.func4 rfl (by kernel_rfl) ?_
  replace h_l := h_l.now; have hle_l := h_l.le
  refine wpC_seq ?_
  refine wpC_region ?_
  refine wpF_run 1 [(2, (.bool false))] (by kernel_rfl) ?_
  refine wpF_end (by kernel_rfl) ?_
  refine then_code ?_
  refine wpC_seq ?_
  refine wpC_seq ?_
  refine wpC_region ?_
  refine wpF_run 2 [(12, (.int .i64 ((n_l : Nat) : Int))), (11, (.slice a_l n_l c_l))] (by kernel_rfl) ?_
  refine wpF_step (op_eqv (d := (some 13)) (.bool (decide (((n_l : Nat) : Int) > ((12 : Nat) : Int)))) (.bool true) (by kernel_rfl) (congrArg Value.bool (cmpDT (by omega))) ?_)
  refine wpF_end (by kernel_rfl) ?_
  refine then_code ?_
  refine wpC_true (by kernel_rfl) ?_
  refine wpC_seq ?_
  refine wpC_region ?_
  refine wpF_step (op_callAt (d := (some 14)) (by kernel_rfl) (c_lives1 _) ?_)
  rintro _ w1 ⟨rfl, hEw1⟩
  have hzw1 := hEw1.size
  refine wpF_run 1 [(2, (.bool true))] (by kernel_rfl) ?_
  refine wpF_end (by kernel_rfl) ?_
  refine then_code ?_
  refine wpC_ret ?_
  refine then_ret ?_
  refine body_ret1 (by kernel_rfl) (show resVal Try.prog 81 _ _ (.tmp 2) (.bool true) by (show _ = _; kernel_rfl)) ?_
  exact ⟨rfl, hEw1⟩

theorem c_WordsGet4 {lo_l hi_l : Nat} {a_l : Option Addr} {n_l c_l : Nat} {l : List UInt8}  (w : World) (h_l : Bs lo_l hi_l w a_l n_l c_l l) (hp0 : n_l = 4) :
    Calls Try.prog 4 #[(.slice a_l n_l c_l)] w (Ret fun r w' => r = (.bool true) ∧ Ext w w') := by
  refine calls_of (n := 81) (σ := [(0, (.slice a_l n_l c_l))]) Try.func4 rfl (by kernel_rfl) ?_
  replace h_l := h_l.now; have hle_l := h_l.le
  have h4 : getE l 4 = 0 := getE_eq (by have := h_l.len_eq; omega)
  have hg8 : getE l 8 ≠ 0 := fun h => by have h1 := getE_zero h; have h2 := h_l.len_eq; omega
  refine wpC_seq ?_
  refine wpC_region ?_
  refine wpF_run 1 [(2, (.bool false))] (by kernel_rfl) ?_
  refine wpF_end (by kernel_rfl) ?_
  refine then_code ?_
  refine wpC_seq ?_
  refine wpC_seq ?_
  refine wpC_region ?_
  refine wpF_run 2 [(12, (.int .i64 ((n_l : Nat) : Int))), (11, (.slice a_l n_l c_l))] (by kernel_rfl) ?_
  refine wpF_step (op_eqv (d := (some 13)) (.bool (decide (((n_l : Nat) : Int) > ((12 : Nat) : Int)))) (.bool false) (by kernel_rfl) (congrArg Value.bool (cmpDF (by omega))) ?_)
  refine wpF_end (by kernel_rfl) ?_
  refine then_code ?_
  refine wpC_false (by kernel_rfl) ?_
  refine wpC_skip ?_
  refine then_code ?_
  refine wpC_seq ?_
  refine wpC_region ?_
  refine wpF_run 1 [(16, (.slice a_l n_l c_l))] (by kernel_rfl) ?_
  refine wpF_step (op_callAt (d := (some 17)) (by kernel_rfl) (c_Get32 _ h_l) ?_)
  rintro _ _ ⟨rfl, rfl⟩
  rw [show getE l 4 = 0 from h4]
  refine wpF_run 5 [(4, (.int .i64 ((0 : Nat) : Int))), (3, (.int .u32 ((getV l 4 : Nat) : Int))), (19, (.int .i64 ((0 : Nat) : Int))), (18, (.int .u32 ((getV l 4 : Nat) : Int))), (15, (.tuple #[(.int .u32 ((getV l 4 : Nat) : Int)), (.int .i64 ((0 : Nat) : Int))]))] (by kernel_rfl) ?_
  refine wpF_end (by kernel_rfl) ?_
  refine then_code ?_
  refine wpC_seq ?_
  refine wpC_region ?_
  refine wpF_run 1 [(21, (.slice a_l n_l c_l))] (by kernel_rfl) ?_
  refine wpF_step (op_callAt (d := (some 22)) (by kernel_rfl) (c_rGet 4 _ h_l (by omega)) ?_)
  rintro _ _ ⟨rfl, rfl⟩
  rw [show getE l 4 = 0 from h4]
  refine wpF_run 5 [(6, (.int .i64 ((0 : Nat) : Int))), (5, (.int .u64 ((getV l 4 : Nat) : Int))), (24, (.int .i64 ((0 : Nat) : Int))), (23, (.int .u64 ((getV l 4 : Nat) : Int))), (20, (.tuple #[(.int .u64 ((getV l 4 : Nat) : Int)), (.int .i64 ((0 : Nat) : Int))]))] (by kernel_rfl) ?_
  refine wpF_end (by kernel_rfl) ?_
  refine then_code ?_
  refine wpC_seq ?_
  refine wpC_region ?_
  refine wpF_run 1 [(26, (.slice a_l n_l c_l))] (by kernel_rfl) ?_
  refine wpF_step (op_callAt (d := (some 27)) (by kernel_rfl) (c_Get64 _ h_l) ?_)
  rintro _ _ ⟨rfl, rfl⟩
  refine wpF_run 5 [(8, (.int .i64 ((getE l 8 : Nat) : Int))), (7, (.int .u64 ((getV l 8 : Nat) : Int))), (29, (.int .i64 ((getE l 8 : Nat) : Int))), (28, (.int .u64 ((getV l 8 : Nat) : Int))), (25, (.tuple #[(.int .u64 ((getV l 8 : Nat) : Int)), (.int .i64 ((getE l 8 : Nat) : Int))]))] (by kernel_rfl) ?_
  refine wpF_end (by kernel_rfl) ?_
  refine then_code ?_
  refine wpC_seq ?_
  refine wpC_region ?_
  refine wpF_run 1 [(31, (.slice a_l n_l c_l))] (by kernel_rfl) ?_
  refine wpF_step (op_callAt (d := (some 32)) (by kernel_rfl) (c_rGet 8 _ h_l (by omega)) ?_)
  rintro _ _ ⟨rfl, rfl⟩
  refine wpF_run 5 [(10, (.int .i64 ((getE l 8 : Nat) : Int))), (9, (.int .u64 ((getV l 8 : Nat) : Int))), (34, (.int .i64 ((getE l 8 : Nat) : Int))), (33, (.int .u64 ((getV l 8 : Nat) : Int))), (30, (.tuple #[(.int .u64 ((getV l 8 : Nat) : Int)), (.int .i64 ((getE l 8 : Nat) : Int))]))] (by kernel_rfl) ?_
  refine wpF_end (by kernel_rfl) ?_
  refine then_code ?_
  refine wpC_seq ?_
  refine wpC_drawM (Ext w.drew) 47 [(36, 8, 0), (37, 34359738368, 1), (38, 32, 0), (39, 206158430208, 6), (40, 274877906944, 8), (41, 549755813904, 16), (42, 549755813952, 16), (43, 3848290697216, 112), (44, 4947802324992, 144), (45, 8796093022208, 272), (46, 17592186044544, 512), (47, 17592186044928, 512), (48, 123145302310912, 3584), (49, 158329674399744, 4608), (50, 281474976710656, 8704), (51, 562949953421568, 16384), (52, 562949953422336, 16384), (53, 3940649673949184, 114688), (54, 5066549580791808, 147456), (55, 9007199254740992, 278528), (56, 18014398509482048, 524288), (57, 54043195528445952, 1572864), (58, 90071992547409920, 2621440), (59, 144115188075855880, 4194304), (60, 432345564227567616, 12582912), (61, 720575940379279360, 20971520), (62, 144115188075855873, 4194304), (63, 2449958197289549824, 71303168), (64, 5908722711110090752, 171966464), (65, 9385501623440113664, 273154048), (66, 18464758472219033600, 537395200), (67, 36893488147419103232, 1090519040), (68, 73786976294838207488, 2147483648), (69, 221360928884514619392, 6442450944), (70, 368934881474191032320, 10737418240), (71, 590295810358705651840, 17179869184), (72, 1770887431076116955136, 51539607552), (73, 2951479051793528258560, 85899345920), (74, 590295810358705651713, 17179869184), (75, 10035028776097996079104, 292057776128), (76, 24202128224706931720192, 704374636544), (77, 38443014649610705567744, 1118838980608), (78, 75631650702209161625600, 2201170739200), (79, 151115727451828646838272, 4466765987840), (80, 302231454903657293676544, 8796093022208), (81, 906694364710971881029632, 26388279066624), (3, 1208925819614629174706176, 70368744177663)] (by kernel_rfl) ⟨by kernel_rfl, by kernel_rfl, by kernel_rfl⟩ (fun hT527 => ?_)
  have hEw1 : Ext w w.drew := Ext.drew w
  generalize w.drew = w1 at hEw1 ⊢
  have hzw1 := hEw1.size
  refine anyM_run hT527 0 1 [(35, (.int .u32 ((getV l 4 : Nat) : Int)))] (QPan.then put_panic_bodyPost) (by kernel_rfl) (by kernel_rfl) (show Ext w1 w1 from (Ext.refl _)) (fun _ => by kernel_rfl) ?_
  refine anyM_take hT527 1 3 (some 36) (.int .u64 ((getV l 4 : Nat) : Int)) (QPan.then put_panic_bodyPost) (by kernel_rfl) (by kernel_rfl) (show Ext w1 w1 from (Ext.refl _)) (yld_valAt (u := (.int .u64 (IntKind.u64.wrap ((getV l 4 : Nat) : Int)))) (fun _ => by kernel_rfl) (congrArg (Value.int .u64) (wrapUx rfl rfl (by show _ < 2 ^ 64; have := getV_lt l 4; omega))) ⟨_, (show Ext w1 w1 from (Ext.refl _))⟩) ?_
  refine anyM_run hT527 2 7 [(37, (.int .u64 ((getV l 4 : Nat) : Int)))] (QPan.then put_panic_bodyPost) (by kernel_rfl) (by kernel_rfl) (show Ext w1 w1 from (Ext.refl _)) (fun _ => by kernel_rfl) ?_
  refine anyM_take hT527 3 15 (some 38) (.bool true) (QPan.then put_panic_bodyPost) (by kernel_rfl) (by kernel_rfl) (show Ext w1 w1 from (Ext.refl _)) (yld_valAt (u := (.bool ((((getV l 4 : Nat) : Int) == ((getV l 4 : Nat) : Int))))) (fun _ => by kernel_rfl) (congrArg Value.bool (cmpEqT (by rfl))) ⟨_, (show Ext w1 w1 from (Ext.refl _))⟩) ?_
  refine anyM_run hT527 4 31 [(39, (.bool true))] (QPan.then put_panic_bodyPost) (by kernel_rfl) (by kernel_rfl) (show Ext w1 w1 from (Ext.refl _)) (fun _ => by kernel_rfl) ?_
  refine anyM_run hT527 5 63 [(40, (.int .i64 ((0 : Nat) : Int)))] (QPan.then put_panic_bodyPost) (by kernel_rfl) (by kernel_rfl) (show Ext w1 w1 from (Ext.refl _)) (fun _ => by kernel_rfl) ?_
  refine anyM_run hT527 6 127 [(41, (.int .i64 ((0 : Nat) : Int)))] (QPan.then put_panic_bodyPost) (by kernel_rfl) (by kernel_rfl) (show Ext w1 w1 from (Ext.refl _)) (fun _ => by kernel_rfl) ?_
  refine anyM_run hT527 7 255 [(42, (.bool true))] (QPan.then put_panic_bodyPost) (by kernel_rfl) (by kernel_rfl) (show Ext w1 w1 from (Ext.refl _)) (fun _ => by kernel_rfl) ?_
  refine anyM_run hT527 8 511 [(43, (.bool true))] (QPan.then put_panic_bodyPost) (by kernel_rfl) (by kernel_rfl) (show Ext w1 w1 from (Ext.refl _)) (fun _ => by kernel_rfl) ?_
  refine anyM_run hT527 9 1023 [(44, (.bool true))] (QPan.then put_panic_bodyPost) (by kernel_rfl) (by kernel_rfl) (show Ext w1 w1 from (Ext.refl _)) (fun _ => by kernel_rfl) ?_
  refine anyM_run hT527 10 2047 [(45, (.int .u64 ((getV l 8 : Nat) : Int)))] (QPan.then put_panic_bodyPost) (by kernel_rfl) (by kernel_rfl) (show Ext w1 w1 from (Ext.refl _)) (fun _ => by kernel_rfl) ?_
  refine anyM_run hT527 11 4095 [(46, (.int .u64 ((getV l 8 : Nat) : Int)))] (QPan.then put_panic_bodyPost) (by kernel_rfl) (by kernel_rfl) (show Ext w1 w1 from (Ext.refl _)) (fun _ => by kernel_rfl) ?_
  refine anyM_take hT527 12 8191 (some 47) (.bool true) (QPan.then put_panic_bodyPost) (by kernel_rfl) (by kernel_rfl) (show Ext w1 w1 from (Ext.refl _)) (yld_valAt (u := (.bool ((((getV l 8 : Nat) : Int) == ((getV l 8 : Nat) : Int))))) (fun _ => by kernel_rfl) (congrArg Value.bool (cmpEqT (by rfl))) ⟨_, (show Ext w1 w1 from (Ext.refl _))⟩) ?_
  refine anyM_run hT527 13 16383 [(48, (.bool true))] (QPan.then put_panic_bodyPost) (by kernel_rfl) (by kernel_rfl) (show Ext w1 w1 from (Ext.refl _)) (fun _ => by kernel_rfl) ?_
  refine anyM_run hT527 14 32767 [(49, (.bool true))] (QPan.then put_panic_bodyPost) (by kernel_rfl) (by kernel_rfl) (show Ext w1 w1 from (Ext.refl _)) (fun _ => by kernel_rfl) ?_
  refine anyM_run hT527 15 65535 [(50, (.int .i64 ((getE l 8 : Nat) : Int)))] (QPan.then put_panic_bodyPost) (by kernel_rfl) (by kernel_rfl) (show Ext w1 w1 from (Ext.refl _)) (fun _ => by kernel_rfl) ?_
  refine anyM_run hT527 16 131071 [(51, (.int .i64 ((getE l 8 : Nat) : Int)))] (QPan.then put_panic_bodyPost) (by kernel_rfl) (by kernel_rfl) (show Ext w1 w1 from (Ext.refl _)) (fun _ => by kernel_rfl) ?_
  refine anyM_take hT527 17 262143 (some 52) (.bool true) (QPan.then put_panic_bodyPost) (by kernel_rfl) (by kernel_rfl) (show Ext w1 w1 from (Ext.refl _)) (yld_valAt (u := (.bool ((((getE l 8 : Nat) : Int) == ((getE l 8 : Nat) : Int))))) (fun _ => by kernel_rfl) (congrArg Value.bool (cmpEqT (by rfl))) ⟨_, (show Ext w1 w1 from (Ext.refl _))⟩) ?_
  refine anyM_run hT527 18 524287 [(53, (.bool true))] (QPan.then put_panic_bodyPost) (by kernel_rfl) (by kernel_rfl) (show Ext w1 w1 from (Ext.refl _)) (fun _ => by kernel_rfl) ?_
  refine anyM_run hT527 19 1048575 [(54, (.bool true))] (QPan.then put_panic_bodyPost) (by kernel_rfl) (by kernel_rfl) (show Ext w1 w1 from (Ext.refl _)) (fun _ => by kernel_rfl) ?_
  refine anyM_run hT527 20 2097151 [(55, (.int .i64 ((0 : Nat) : Int)))] (QPan.then put_panic_bodyPost) (by kernel_rfl) (by kernel_rfl) (show Ext w1 w1 from (Ext.refl _)) (fun _ => by kernel_rfl) ?_
  refine anyM_take hT527 21 4194303 (some 56) (.bool false) (QPan.then put_panic_bodyPost) (by kernel_rfl) (by kernel_rfl) (show Ext w1 w1 from (Ext.refl _)) (yld_valAt (u := (.bool ((((0 : Nat) : Int) != ((0 : Nat) : Int))))) (fun _ => by kernel_rfl) (congrArg Value.bool (cmpNeF (by rfl))) ⟨_, (show Ext w1 w1 from (Ext.refl _))⟩) ?_
  refine anyM_run hT527 22 8388607 [(57, (.bool false))] (QPan.then put_panic_bodyPost) (by kernel_rfl) (by kernel_rfl) (show Ext w1 w1 from (Ext.refl _)) (fun _ => by kernel_rfl) ?_
  refine anyM_run hT527 23 16777215 [(58, (.int .u32 ((getV l 4 : Nat) : Int)))] (QPan.then put_panic_bodyPost) (by kernel_rfl) (by kernel_rfl) (show Ext w1 w1 from (Ext.refl _)) (fun _ => by kernel_rfl) ?_
  refine anyM_run hT527 26 83886079 [(61, (.slice a_l n_l c_l))] (QPan.then put_panic_bodyPost) (by kernel_rfl) (by kernel_rfl) (show Ext w1 w1 from (Ext.refl _)) (fun _ => by kernel_rfl) ?_
  refine anyM_take hT527 27 218103807 (some 62) (.string ⟨(l).toArray⟩) (QPan.then put_panic_bodyPost) (by kernel_rfl) (by kernel_rfl) (show Ext w1 w1 from (Ext.refl _)) (yld_val (s := convert 23 9 (.slice a_l n_l c_l)) (by kernel_rfl) (fun w' hC => run_string (E := 5) (by kernel_rfl) (by kernel_rfl) (by kernel_rfl) ((h_l.ext hEw1).ext hC))) ?_
  refine anyM_one 24 234881023 (by kernel_rfl) (by kernel_rfl) (op_callAt (d := (some 59)) (by kernel_rfl) (c_Put32 (getV l 4) _ (getV_lt l 4)) ?_)
  rintro _ w2 ⟨a1, rfl, hFz5_0, hEw2⟩
  have hzw2 := hEw2.size
  refine ⟨.inr hEw2, ?_⟩
  refine anyM_class (C := Ext w1) (C' := Ext w2) (fun w' h => (hEw2).trans h) ?_
  refine anyM_take hT527 25 268435455 (some 60) (.string ⟨(be (getV l 4) 4).toArray⟩) (QPan.then put_panic_bodyPost) (by kernel_rfl) (by kernel_rfl) (show Ext w2 w2 from (Ext.refl _)) (yld_val (s := convert 23 9 (.slice a1 4 4)) (by kernel_rfl) (fun w' hC => run_string (E := 5) (by kernel_rfl) (by kernel_rfl) (by kernel_rfl) (hFz5_0.ext hC))) ?_
  refine anyM_take hT527 28 536870911 (some 63) (.bool true) (QPan.then put_panic_bodyPost) (by kernel_rfl) (by kernel_rfl) (show Ext w2 w2 from (Ext.refl _)) (yld_valAt (u := (.bool ((⟨(be (getV l 4) 4).toArray⟩ : ByteArray).toList == (⟨(l).toArray⟩ : ByteArray).toList))) (fun _ => by kernel_rfl) (congrArg Value.bool (strT (be_getV h4))) ⟨_, (show Ext w2 w2 from (Ext.refl _))⟩) ?_
  refine anyM_run hT527 29 1073741823 [(64, (.bool true))] (QPan.then put_panic_bodyPost) (by kernel_rfl) (by kernel_rfl) (show Ext w2 w2 from (Ext.refl _)) (fun _ => by kernel_rfl) ?_
  refine anyM_run hT527 30 2147483647 [(65, (.bool true))] (QPan.then put_panic_bodyPost) (by kernel_rfl) (by kernel_rfl) (show Ext w2 w2 from (Ext.refl _)) (fun _ => by kernel_rfl) ?_
  refine anyM_run hT527 31 4294967295 [(66, (.bool true))] (QPan.then put_panic_bodyPost) (by kernel_rfl) (by kernel_rfl) (show Ext w2 w2 from (Ext.refl _)) (fun _ => by kernel_rfl) ?_
  refine anyM_run hT527 32 8589934591 [(67, (.int .i64 ((getE l 8 : Nat) : Int)))] (QPan.then put_panic_bodyPost) (by kernel_rfl) (by kernel_rfl) (show Ext w2 w2 from (Ext.refl _)) (fun _ => by kernel_rfl) ?_
  refine anyM_take hT527 33 17179869183 (some 68) (.bool true) (QPan.then put_panic_bodyPost) (by kernel_rfl) (by kernel_rfl) (show Ext w2 w2 from (Ext.refl _)) (yld_valAt (u := (.bool ((((getE l 8 : Nat) : Int) != ((0 : Nat) : Int))))) (fun _ => by kernel_rfl) (congrArg Value.bool (cmpNeT (by omega))) ⟨_, (show Ext w2 w2 from (Ext.refl _))⟩) ?_
  refine anyM_run hT527 34 34359738367 [(69, (.bool true))] (QPan.then put_panic_bodyPost) (by kernel_rfl) (by kernel_rfl) (show Ext w2 w2 from (Ext.refl _)) (fun _ => by kernel_rfl) ?_
  refine anyM_run hT527 35 68719476735 [(70, undef)] (QPan.then put_panic_bodyPost) (by kernel_rfl) (by kernel_rfl) (show Ext w2 w2 from (Ext.refl _)) (fun _ => by kernel_rfl) ?_
  refine anyM_run hT527 36 137438953471 [(71, undef)] (QPan.then put_panic_bodyPost) (by kernel_rfl) (by kernel_rfl) (show Ext w2 w2 from (Ext.refl _)) (fun _ => by kernel_rfl) ?_
  refine anyM_run hT527 37 274877906943 [(72, undef)] (QPan.then put_panic_bodyPost) (by kernel_rfl) (by kernel_rfl) (show Ext w2 w2 from (Ext.refl _)) (fun _ => by kernel_rfl) ?_
  refine anyM_run hT527 38 549755813887 [(73, undef)] (QPan.then put_panic_bodyPost) (by kernel_rfl) (by kernel_rfl) (show Ext w2 w2 from (Ext.refl _)) (fun _ => by kernel_rfl) ?_
  refine anyM_run hT527 39 1099511627775 [(74, undef)] (QPan.then put_panic_bodyPost) (by kernel_rfl) (by kernel_rfl) (show Ext w2 w2 from (Ext.refl _)) (fun _ => by kernel_rfl) ?_
  refine anyM_run hT527 40 2199023255551 [(75, undef)] (QPan.then put_panic_bodyPost) (by kernel_rfl) (by kernel_rfl) (show Ext w2 w2 from (Ext.refl _)) (fun _ => by kernel_rfl) ?_
  refine anyM_run hT527 41 4398046511103 [(76, (.bool true))] (QPan.then put_panic_bodyPost) (by kernel_rfl) (by kernel_rfl) (show Ext w2 w2 from (Ext.refl _)) (fun _ => by kernel_rfl) ?_
  refine anyM_run hT527 42 8796093022207 [(77, (.bool true))] (QPan.then put_panic_bodyPost) (by kernel_rfl) (by kernel_rfl) (show Ext w2 w2 from (Ext.refl _)) (fun _ => by kernel_rfl) ?_
  refine anyM_run hT527 43 17592186044415 [(78, (.bool true))] (QPan.then put_panic_bodyPost) (by kernel_rfl) (by kernel_rfl) (show Ext w2 w2 from (Ext.refl _)) (fun _ => by kernel_rfl) ?_
  refine anyM_one 44 35184372088831 (by kernel_rfl) (by kernel_rfl) (op_callAt (d := (some 79)) (by kernel_rfl) (c_lives1 _) ?_)
  rintro _ w3 ⟨rfl, hEw3⟩
  have hzw3 := hEw3.size
  refine ⟨.inr hEw3, ?_⟩
  refine anyM_run hT527 45 70368744177663 [(80, (.bool true))] (QPan.then put_panic_bodyPost) (by kernel_rfl) (by kernel_rfl) (show Ext w2 w3 from hEw3) (fun _ => by kernel_rfl) ?_
  refine anyM_run hT527 46 140737488355327 [(2, (.bool true))] (QPan.then put_panic_bodyPost) (by kernel_rfl) (by kernel_rfl) (show Ext w2 w3 from hEw3) (fun _ => by kernel_rfl) ?_
  refine anyM_done (by kernel_rfl) ?_
  refine then_code ?_
  refine wpC_ret ?_
  refine body_ret1 (by kernel_rfl) (show resVal Try.prog 81 _ _ (.tmp 2) (.bool true) by (show _ = _; kernel_rfl)) ?_
  exact ⟨rfl, ((hEw1.trans hEw2).trans hEw3)⟩

theorem c_WordsGet8 {lo_l hi_l : Nat} {a_l : Option Addr} {n_l c_l : Nat} {l : List UInt8}  (w : World) (h_l : Bs lo_l hi_l w a_l n_l c_l l) (hp0 : n_l = 8) :
    Calls Try.prog 4 #[(.slice a_l n_l c_l)] w (Ret fun r w' => r = (.bool true) ∧ Ext w w') := by
  refine calls_of (n := 81) (σ := [(0, (.slice a_l n_l c_l))]) Try.func4 rfl (by kernel_rfl) ?_
  replace h_l := h_l.now; have hle_l := h_l.le
  have h8 : getE l 8 = 0 := getE_eq (by have := h_l.len_eq; omega)
  have hg4 : getE l 4 ≠ 0 := fun h => by have h1 := getE_zero h; have h2 := h_l.len_eq; omega
  refine wpC_seq ?_
  refine wpC_region ?_
  refine wpF_run 1 [(2, (.bool false))] (by kernel_rfl) ?_
  refine wpF_end (by kernel_rfl) ?_
  refine then_code ?_
  refine wpC_seq ?_
  refine wpC_seq ?_
  refine wpC_region ?_
  refine wpF_run 2 [(12, (.int .i64 ((n_l : Nat) : Int))), (11, (.slice a_l n_l c_l))] (by kernel_rfl) ?_
  refine wpF_step (op_eqv (d := (some 13)) (.bool (decide (((n_l : Nat) : Int) > ((12 : Nat) : Int)))) (.bool false) (by kernel_rfl) (congrArg Value.bool (cmpDF (by omega))) ?_)
  refine wpF_end (by kernel_rfl) ?_
  refine then_code ?_
  refine wpC_false (by kernel_rfl) ?_
  refine wpC_skip ?_
  refine then_code ?_
  refine wpC_seq ?_
  refine wpC_region ?_
  refine wpF_run 1 [(16, (.slice a_l n_l c_l))] (by kernel_rfl) ?_
  refine wpF_step (op_callAt (d := (some 17)) (by kernel_rfl) (c_Get32 _ h_l) ?_)
  rintro _ _ ⟨rfl, rfl⟩
  refine wpF_run 5 [(4, (.int .i64 ((getE l 4 : Nat) : Int))), (3, (.int .u32 ((getV l 4 : Nat) : Int))), (19, (.int .i64 ((getE l 4 : Nat) : Int))), (18, (.int .u32 ((getV l 4 : Nat) : Int))), (15, (.tuple #[(.int .u32 ((getV l 4 : Nat) : Int)), (.int .i64 ((getE l 4 : Nat) : Int))]))] (by kernel_rfl) ?_
  refine wpF_end (by kernel_rfl) ?_
  refine then_code ?_
  refine wpC_seq ?_
  refine wpC_region ?_
  refine wpF_run 1 [(21, (.slice a_l n_l c_l))] (by kernel_rfl) ?_
  refine wpF_step (op_callAt (d := (some 22)) (by kernel_rfl) (c_rGet 4 _ h_l (by omega)) ?_)
  rintro _ _ ⟨rfl, rfl⟩
  refine wpF_run 5 [(6, (.int .i64 ((getE l 4 : Nat) : Int))), (5, (.int .u64 ((getV l 4 : Nat) : Int))), (24, (.int .i64 ((getE l 4 : Nat) : Int))), (23, (.int .u64 ((getV l 4 : Nat) : Int))), (20, (.tuple #[(.int .u64 ((getV l 4 : Nat) : Int)), (.int .i64 ((getE l 4 : Nat) : Int))]))] (by kernel_rfl) ?_
  refine wpF_end (by kernel_rfl) ?_
  refine then_code ?_
  refine wpC_seq ?_
  refine wpC_region ?_
  refine wpF_run 1 [(26, (.slice a_l n_l c_l))] (by kernel_rfl) ?_
  refine wpF_step (op_callAt (d := (some 27)) (by kernel_rfl) (c_Get64 _ h_l) ?_)
  rintro _ _ ⟨rfl, rfl⟩
  rw [show getE l 8 = 0 from h8]
  refine wpF_run 5 [(8, (.int .i64 ((0 : Nat) : Int))), (7, (.int .u64 ((getV l 8 : Nat) : Int))), (29, (.int .i64 ((0 : Nat) : Int))), (28, (.int .u64 ((getV l 8 : Nat) : Int))), (25, (.tuple #[(.int .u64 ((getV l 8 : Nat) : Int)), (.int .i64 ((0 : Nat) : Int))]))] (by kernel_rfl) ?_
  refine wpF_end (by kernel_rfl) ?_
  refine then_code ?_
  refine wpC_seq ?_
  refine wpC_region ?_
  refine wpF_run 1 [(31, (.slice a_l n_l c_l))] (by kernel_rfl) ?_
  refine wpF_step (op_callAt (d := (some 32)) (by kernel_rfl) (c_rGet 8 _ h_l (by omega)) ?_)
  rintro _ _ ⟨rfl, rfl⟩
  rw [show getE l 8 = 0 from h8]
  refine wpF_run 5 [(10, (.int .i64 ((0 : Nat) : Int))), (9, (.int .u64 ((getV l 8 : Nat) : Int))), (34, (.int .i64 ((0 : Nat) : Int))), (33, (.int .u64 ((getV l 8 : Nat) : Int))), (30, (.tuple #[(.int .u64 ((getV l 8 : Nat) : Int)), (.int .i64 ((0 : Nat) : Int))]))] (by kernel_rfl) ?_
  refine wpF_end (by kernel_rfl) ?_
  refine then_code ?_
  refine wpC_seq ?_
  refine wpC_drawM (Ext w.drew) 47 [(36, 8, 0), (37, 34359738368, 1), (38, 32, 0), (39, 206158430208, 6), (40, 274877906944, 8), (41, 549755813904, 16), (42, 549755813952, 16), (43, 3848290697216, 112), (44, 4947802324992, 144), (45, 8796093022208, 272), (46, 17592186044544, 512), (47, 17592186044928, 512), (48, 123145302310912, 3584), (49, 158329674399744, 4608), (50, 281474976710656, 8704), (51, 562949953421568, 16384), (52, 562949953422336, 16384), (53, 3940649673949184, 114688), (54, 5066549580791808, 147456), (55, 9007199254740992, 278528), (56, 18014398509482048, 524288), (57, 54043195528445952, 1572864), (58, 90071992547409920, 2621440), (59, 144115188075855880, 4194304), (60, 432345564227567616, 12582912), (61, 720575940379279360, 20971520), (62, 144115188075855873, 4194304), (63, 2449958197289549824, 71303168), (64, 5908722711110090752, 171966464), (65, 9385501623440113664, 273154048), (66, 18464758472219033600, 537395200), (67, 36893488147419103232, 1090519040), (68, 73786976294838207488, 2147483648), (69, 221360928884514619392, 6442450944), (70, 368934881474191032320, 10737418240), (71, 590295810358705651840, 17179869184), (72, 1770887431076116955136, 51539607552), (73, 2951479051793528258560, 85899345920), (74, 590295810358705651713, 17179869184), (75, 10035028776097996079104, 292057776128), (76, 24202128224706931720192, 704374636544), (77, 38443014649610705567744, 1118838980608), (78, 75631650702209161625600, 2201170739200), (79, 151115727451828646838272, 4466765987840), (80, 302231454903657293676544, 8796093022208), (81, 906694364710971881029632, 26388279066624), (3, 1208925819614629174706176, 70368744177663)] (by kernel_rfl) ⟨by kernel_rfl, by kernel_rfl, by kernel_rfl⟩ (fun hT647 => ?_)
  have hEw1 : Ext w w.drew := Ext.drew w
  generalize w.drew = w1 at hEw1 ⊢
  have hzw1 := hEw1.size
  refine anyM_run hT647 0 1 [(35, (.int .u32 ((getV l 4 : Nat) : Int)))] (QPan.then put_panic_bodyPost) (by kernel_rfl) (by kernel_rfl) (show Ext w1 w1 from (Ext.refl _)) (fun _ => by kernel_rfl) ?_
  refine anyM_take hT647 1 3 (some 36) (.int .u64 ((getV l 4 : Nat) : Int)) (QPan.then put_panic_bodyPost) (by kernel_rfl) (by kernel_rfl) (show Ext w1 w1 from (Ext.refl _)) (yld_valAt (u := (.int .u64 (IntKind.u64.wrap ((getV l 4 : Nat) : Int)))) (fun _ => by kernel_rfl) (congrArg (Value.int .u64) (wrapUx rfl rfl (by show _ < 2 ^ 64; have := getV_lt l 4; omega))) ⟨_, (show Ext w1 w1 from (Ext.refl _))⟩) ?_
  refine anyM_run hT647 2 7 [(37, (.int .u64 ((getV l 4 : Nat) : Int)))] (QPan.then put_panic_bodyPost) (by kernel_rfl) (by kernel_rfl) (show Ext w1 w1 from (Ext.refl _)) (fun _ => by kernel_rfl) ?_
  refine anyM_take hT647 3 15 (some 38) (.bool true) (QPan.then put_panic_bodyPost) (by kernel_rfl) (by kernel_rfl) (show Ext w1 w1 from (Ext.refl _)) (yld_valAt (u := (.bool ((((getV l 4 : Nat) : Int) == ((getV l 4 : Nat) : Int))))) (fun _ => by kernel_rfl) (congrArg Value.bool (cmpEqT (by rfl))) ⟨_, (show Ext w1 w1 from (Ext.refl _))⟩) ?_
  refine anyM_run hT647 4 31 [(39, (.bool true))] (QPan.then put_panic_bodyPost) (by kernel_rfl) (by kernel_rfl) (show Ext w1 w1 from (Ext.refl _)) (fun _ => by kernel_rfl) ?_
  refine anyM_run hT647 5 63 [(40, (.int .i64 ((getE l 4 : Nat) : Int)))] (QPan.then put_panic_bodyPost) (by kernel_rfl) (by kernel_rfl) (show Ext w1 w1 from (Ext.refl _)) (fun _ => by kernel_rfl) ?_
  refine anyM_run hT647 6 127 [(41, (.int .i64 ((getE l 4 : Nat) : Int)))] (QPan.then put_panic_bodyPost) (by kernel_rfl) (by kernel_rfl) (show Ext w1 w1 from (Ext.refl _)) (fun _ => by kernel_rfl) ?_
  refine anyM_take hT647 7 255 (some 42) (.bool true) (QPan.then put_panic_bodyPost) (by kernel_rfl) (by kernel_rfl) (show Ext w1 w1 from (Ext.refl _)) (yld_valAt (u := (.bool ((((getE l 4 : Nat) : Int) == ((getE l 4 : Nat) : Int))))) (fun _ => by kernel_rfl) (congrArg Value.bool (cmpEqT (by rfl))) ⟨_, (show Ext w1 w1 from (Ext.refl _))⟩) ?_
  refine anyM_run hT647 8 511 [(43, (.bool true))] (QPan.then put_panic_bodyPost) (by kernel_rfl) (by kernel_rfl) (show Ext w1 w1 from (Ext.refl _)) (fun _ => by kernel_rfl) ?_
  refine anyM_run hT647 9 1023 [(44, (.bool true))] (QPan.then put_panic_bodyPost) (by kernel_rfl) (by kernel_rfl) (show Ext w1 w1 from (Ext.refl _)) (fun _ => by kernel_rfl) ?_
  refine anyM_run hT647 10 2047 [(45, (.int .u64 ((getV l 8 : Nat) : Int)))] (QPan.then put_panic_bodyPost) (by kernel_rfl) (by kernel_rfl) (show Ext w1 w1 from (Ext.refl _)) (fun _ => by kernel_rfl) ?_
  refine anyM_run hT647 11 4095 [(46, (.int .u64 ((getV l 8 : Nat) : Int)))] (QPan.then put_panic_bodyPost) (by kernel_rfl) (by kernel_rfl) (show Ext w1 w1 from (Ext.refl _)) (fun _ => by kernel_rfl) ?_
  refine anyM_take hT647 12 8191 (some 47) (.bool true) (QPan.then put_panic_bodyPost) (by kernel_rfl) (by kernel_rfl) (show Ext w1 w1 from (Ext.refl _)) (yld_valAt (u := (.bool ((((getV l 8 : Nat) : Int) == ((getV l 8 : Nat) : Int))))) (fun _ => by kernel_rfl) (congrArg Value.bool (cmpEqT (by rfl))) ⟨_, (show Ext w1 w1 from (Ext.refl _))⟩) ?_
  refine anyM_run hT647 13 16383 [(48, (.bool true))] (QPan.then put_panic_bodyPost) (by kernel_rfl) (by kernel_rfl) (show Ext w1 w1 from (Ext.refl _)) (fun _ => by kernel_rfl) ?_
  refine anyM_run hT647 14 32767 [(49, (.bool true))] (QPan.then put_panic_bodyPost) (by kernel_rfl) (by kernel_rfl) (show Ext w1 w1 from (Ext.refl _)) (fun _ => by kernel_rfl) ?_
  refine anyM_run hT647 15 65535 [(50, (.int .i64 ((0 : Nat) : Int)))] (QPan.then put_panic_bodyPost) (by kernel_rfl) (by kernel_rfl) (show Ext w1 w1 from (Ext.refl _)) (fun _ => by kernel_rfl) ?_
  refine anyM_run hT647 16 131071 [(51, (.int .i64 ((0 : Nat) : Int)))] (QPan.then put_panic_bodyPost) (by kernel_rfl) (by kernel_rfl) (show Ext w1 w1 from (Ext.refl _)) (fun _ => by kernel_rfl) ?_
  refine anyM_run hT647 17 262143 [(52, (.bool true))] (QPan.then put_panic_bodyPost) (by kernel_rfl) (by kernel_rfl) (show Ext w1 w1 from (Ext.refl _)) (fun _ => by kernel_rfl) ?_
  refine anyM_run hT647 18 524287 [(53, (.bool true))] (QPan.then put_panic_bodyPost) (by kernel_rfl) (by kernel_rfl) (show Ext w1 w1 from (Ext.refl _)) (fun _ => by kernel_rfl) ?_
  refine anyM_run hT647 19 1048575 [(54, (.bool true))] (QPan.then put_panic_bodyPost) (by kernel_rfl) (by kernel_rfl) (show Ext w1 w1 from (Ext.refl _)) (fun _ => by kernel_rfl) ?_
  refine anyM_run hT647 20 2097151 [(55, (.int .i64 ((getE l 4 : Nat) : Int)))] (QPan.then put_panic_bodyPost) (by kernel_rfl) (by kernel_rfl) (show Ext w1 w1 from (Ext.refl _)) (fun _ => by kernel_rfl) ?_
  refine anyM_take hT647 21 4194303 (some 56) (.bool true) (QPan.then put_panic_bodyPost) (by kernel_rfl) (by kernel_rfl) (show Ext w1 w1 from (Ext.refl _)) (yld_valAt (u := (.bool ((((getE l 4 : Nat) : Int) != ((0 : Nat) : Int))))) (fun _ => by kernel_rfl) (congrArg Value.bool (cmpNeT (by omega))) ⟨_, (show Ext w1 w1 from (Ext.refl _))⟩) ?_
  refine anyM_run hT647 22 8388607 [(57, (.bool true))] (QPan.then put_panic_bodyPost) (by kernel_rfl) (by kernel_rfl) (show Ext w1 w1 from (Ext.refl _)) (fun _ => by kernel_rfl) ?_
  refine anyM_run hT647 23 16777215 [(58, undef)] (QPan.then put_panic_bodyPost) (by kernel_rfl) (by kernel_rfl) (show Ext w1 w1 from (Ext.refl _)) (fun _ => by kernel_rfl) ?_
  refine anyM_run hT647 24 33554431 [(59, undef)] (QPan.then put_panic_bodyPost) (by kernel_rfl) (by kernel_rfl) (show Ext w1 w1 from (Ext.refl _)) (fun _ => by kernel_rfl) ?_
  refine anyM_run hT647 25 67108863 [(60, undef)] (QPan.then put_panic_bodyPost) (by kernel_rfl) (by kernel_rfl) (show Ext w1 w1 from (Ext.refl _)) (fun _ => by kernel_rfl) ?_
  refine anyM_run hT647 26 134217727 [(61, undef)] (QPan.then put_panic_bodyPost) (by kernel_rfl) (by kernel_rfl) (show Ext w1 w1 from (Ext.refl _)) (fun _ => by kernel_rfl) ?_
  refine anyM_run hT647 27 268435455 [(62, undef)] (QPan.then put_panic_bodyPost) (by kernel_rfl) (by kernel_rfl) (show Ext w1 w1 from (Ext.refl _)) (fun _ => by kernel_rfl) ?_
  refine anyM_run hT647 28 536870911 [(63, undef)] (QPan.then put_panic_bodyPost) (by kernel_rfl) (by kernel_rfl) (show Ext w1 w1 from (Ext.refl _)) (fun _ => by kernel_rfl) ?_
  refine anyM_run hT647 29 1073741823 [(64, (.bool true))] (QPan.then put_panic_bodyPost) (by kernel_rfl) (by kernel_rfl) (show Ext w1 w1 from (Ext.refl _)) (fun _ => by kernel_rfl) ?_
  refine anyM_run hT647 30 2147483647 [(65, (.bool true))] (QPan.then put_panic_bodyPost) (by kernel_rfl) (by kernel_rfl) (show Ext w1 w1 from (Ext.refl _)) (fun _ => by kernel_rfl) ?_
  refine anyM_run hT647 31 4294967295 [(66, (.bool true))] (QPan.then put_panic_bodyPost) (by kernel_rfl) (by kernel_rfl) (show Ext w1 w1 from (Ext.refl _)) (fun _ => by kernel_rfl) ?_
  refine anyM_run hT647 32 8589934591 [(67, (.int .i64 ((0 : Nat) : Int)))] (QPan.then put_panic_bodyPost) (by kernel_rfl) (by kernel_rfl) (show Ext w1 w1 from (Ext.refl _)) (fun _ => by kernel_rfl) ?_
  refine anyM_take hT647 33 17179869183 (some 68) (.bool false) (QPan.then put_panic_bodyPost) (by kernel_rfl) (by kernel_rfl) (show Ext w1 w1 from (Ext.refl _)) (yld_valAt (u := (.bool ((((0 : Nat) : Int) != ((0 : Nat) : Int))))) (fun _ => by kernel_rfl) (congrArg Value.bool (cmpNeF (by rfl))) ⟨_, (show Ext w1 w1 from (Ext.refl _))⟩) ?_
  refine anyM_run hT647 34 34359738367 [(69, (.bool false))] (QPan.then put_panic_bodyPost) (by kernel_rfl) (by kernel_rfl) (show Ext w1 w1 from (Ext.refl _)) (fun _ => by kernel_rfl) ?_
  refine anyM_run hT647 35 68719476735 [(70, (.int .u64 ((getV l 8 : Nat) : Int)))] (QPan.then put_panic_bodyPost) (by kernel_rfl) (by kernel_rfl) (show Ext w1 w1 from (Ext.refl _)) (fun _ => by kernel_rfl) ?_
  refine anyM_run hT647 38 343597383679 [(73, (.slice a_l n_l c_l))] (QPan.then put_panic_bodyPost) (by kernel_rfl) (by kernel_rfl) (show Ext w1 w1 from (Ext.refl _)) (fun _ => by kernel_rfl) ?_
  refine anyM_take hT647 39 893353197567 (some 74) (.string ⟨(l).toArray⟩) (QPan.then put_panic_bodyPost) (by kernel_rfl) (by kernel_rfl) (show Ext w1 w1 from (Ext.refl _)) (yld_val (s := convert 23 9 (.slice a_l n_l c_l)) (by kernel_rfl) (fun w' hC => run_string (E := 5) (by kernel_rfl) (by kernel_rfl) (by kernel_rfl) ((h_l.ext hEw1).ext hC))) ?_
  refine anyM_one 36 962072674303 (by kernel_rfl) (by kernel_rfl) (op_callAt (d := (some 71)) (by kernel_rfl) (c_Put64 (getV l 8) _) ?_)
  rintro _ w2 ⟨a1, rfl, hFz5_0, hEw2⟩
  have hzw2 := hEw2.size
  refine ⟨.inr hEw2, ?_⟩
  refine anyM_class (C := Ext w1) (C' := Ext w2) (fun w' h => (hEw2).trans h) ?_
  refine anyM_take hT647 37 1099511627775 (some 72) (.string ⟨(be (getV l 8) 8).toArray⟩) (QPan.then put_panic_bodyPost) (by kernel_rfl) (by kernel_rfl) (show Ext w2 w2 from (Ext.refl _)) (yld_val (s := convert 23 9 (.slice a1 8 8)) (by kernel_rfl) (fun w' hC => run_string (E := 5) (by kernel_rfl) (by kernel_rfl) (by kernel_rfl) (hFz5_0.ext hC))) ?_
  refine anyM_take hT647 40 2199023255551 (some 75) (.bool true) (QPan.then put_panic_bodyPost) (by kernel_rfl) (by kernel_rfl) (show Ext w2 w2 from (Ext.refl _)) (yld_valAt (u := (.bool ((⟨(be (getV l 8) 8).toArray⟩ : ByteArray).toList == (⟨(l).toArray⟩ : ByteArray).toList))) (fun _ => by kernel_rfl) (congrArg Value.bool (strT (be_getV h8))) ⟨_, (show Ext w2 w2 from (Ext.refl _))⟩) ?_
  refine anyM_run hT647 41 4398046511103 [(76, (.bool true))] (QPan.then put_panic_bodyPost) (by kernel_rfl) (by kernel_rfl) (show Ext w2 w2 from (Ext.refl _)) (fun _ => by kernel_rfl) ?_
  refine anyM_run hT647 42 8796093022207 [(77, (.bool true))] (QPan.then put_panic_bodyPost) (by kernel_rfl) (by kernel_rfl) (show Ext w2 w2 from (Ext.refl _)) (fun _ => by kernel_rfl) ?_
  refine anyM_run hT647 43 17592186044415 [(78, (.bool true))] (QPan.then put_panic_bodyPost) (by kernel_rfl) (by kernel_rfl) (show Ext w2 w2 from (Ext.refl _)) (fun _ => by kernel_rfl) ?_
  refine anyM_one 44 35184372088831 (by kernel_rfl) (by kernel_rfl) (op_callAt (d := (some 79)) (by kernel_rfl) (c_lives1 _) ?_)
  rintro _ w3 ⟨rfl, hEw3⟩
  have hzw3 := hEw3.size
  refine ⟨.inr hEw3, ?_⟩
  refine anyM_run hT647 45 70368744177663 [(80, (.bool true))] (QPan.then put_panic_bodyPost) (by kernel_rfl) (by kernel_rfl) (show Ext w2 w3 from hEw3) (fun _ => by kernel_rfl) ?_
  refine anyM_run hT647 46 140737488355327 [(2, (.bool true))] (QPan.then put_panic_bodyPost) (by kernel_rfl) (by kernel_rfl) (show Ext w2 w3 from hEw3) (fun _ => by kernel_rfl) ?_
  refine anyM_done (by kernel_rfl) ?_
  refine then_code ?_
  refine wpC_ret ?_
  refine body_ret1 (by kernel_rfl) (show resVal Try.prog 81 _ _ (.tmp 2) (.bool true) by (show _ = _; kernel_rfl)) ?_
  exact ⟨rfl, ((hEw1.trans hEw2).trans hEw3)⟩

theorem c_WordsGet9 {lo_l hi_l : Nat} {a_l : Option Addr} {n_l c_l : Nat} {l : List UInt8}  (w : World) (h_l : Bs lo_l hi_l w a_l n_l c_l l) (hp0 : n_l ≠ 4) (hp1 : n_l ≠ 8) (hp2 : n_l ≤ 12) :
    Calls Try.prog 4 #[(.slice a_l n_l c_l)] w (Ret fun r w' => r = (.bool true) ∧ Ext w w') := by
  refine calls_of (n := 81) (σ := [(0, (.slice a_l n_l c_l))]) Try.func4 rfl (by kernel_rfl) ?_
  replace h_l := h_l.now; have hle_l := h_l.le
  have hg4 : getE l 4 ≠ 0 := fun h => by have h1 := getE_zero h; have h2 := h_l.len_eq; omega
  have hg8 : getE l 8 ≠ 0 := fun h => by have h1 := getE_zero h; have h2 := h_l.len_eq; omega
  refine wpC_seq ?_
  refine wpC_region ?_
  refine wpF_run 1 [(2, (.bool false))] (by kernel_rfl) ?_
  refine wpF_end (by kernel_rfl) ?_
  refine then_code ?_
  refine wpC_seq ?_
  refine wpC_seq ?_
  refine wpC_region ?_
  refine wpF_run 2 [(12, (.int .i64 ((n_l : Nat) : Int))), (11, (.slice a_l n_l c_l))] (by kernel_rfl) ?_
  refine wpF_step (op_eqv (d := (some 13)) (.bool (decide (((n_l : Nat) : Int) > ((12 : Nat) : Int)))) (.bool false) (by kernel_rfl) (congrArg Value.bool (cmpDF (by omega))) ?_)
  refine wpF_end (by kernel_rfl) ?_
  refine then_code ?_
  refine wpC_false (by kernel_rfl) ?_
  refine wpC_skip ?_
  refine then_code ?_
  refine wpC_seq ?_
  refine wpC_region ?_
  refine wpF_run 1 [(16, (.slice a_l n_l c_l))] (by kernel_rfl) ?_
  refine wpF_step (op_callAt (d := (some 17)) (by kernel_rfl) (c_Get32 _ h_l) ?_)
  rintro _ _ ⟨rfl, rfl⟩
  refine wpF_run 5 [(4, (.int .i64 ((getE l 4 : Nat) : Int))), (3, (.int .u32 ((getV l 4 : Nat) : Int))), (19, (.int .i64 ((getE l 4 : Nat) : Int))), (18, (.int .u32 ((getV l 4 : Nat) : Int))), (15, (.tuple #[(.int .u32 ((getV l 4 : Nat) : Int)), (.int .i64 ((getE l 4 : Nat) : Int))]))] (by kernel_rfl) ?_
  refine wpF_end (by kernel_rfl) ?_
  refine then_code ?_
  refine wpC_seq ?_
  refine wpC_region ?_
  refine wpF_run 1 [(21, (.slice a_l n_l c_l))] (by kernel_rfl) ?_
  refine wpF_step (op_callAt (d := (some 22)) (by kernel_rfl) (c_rGet 4 _ h_l (by omega)) ?_)
  rintro _ _ ⟨rfl, rfl⟩
  refine wpF_run 5 [(6, (.int .i64 ((getE l 4 : Nat) : Int))), (5, (.int .u64 ((getV l 4 : Nat) : Int))), (24, (.int .i64 ((getE l 4 : Nat) : Int))), (23, (.int .u64 ((getV l 4 : Nat) : Int))), (20, (.tuple #[(.int .u64 ((getV l 4 : Nat) : Int)), (.int .i64 ((getE l 4 : Nat) : Int))]))] (by kernel_rfl) ?_
  refine wpF_end (by kernel_rfl) ?_
  refine then_code ?_
  refine wpC_seq ?_
  refine wpC_region ?_
  refine wpF_run 1 [(26, (.slice a_l n_l c_l))] (by kernel_rfl) ?_
  refine wpF_step (op_callAt (d := (some 27)) (by kernel_rfl) (c_Get64 _ h_l) ?_)
  rintro _ _ ⟨rfl, rfl⟩
  refine wpF_run 5 [(8, (.int .i64 ((getE l 8 : Nat) : Int))), (7, (.int .u64 ((getV l 8 : Nat) : Int))), (29, (.int .i64 ((getE l 8 : Nat) : Int))), (28, (.int .u64 ((getV l 8 : Nat) : Int))), (25, (.tuple #[(.int .u64 ((getV l 8 : Nat) : Int)), (.int .i64 ((getE l 8 : Nat) : Int))]))] (by kernel_rfl) ?_
  refine wpF_end (by kernel_rfl) ?_
  refine then_code ?_
  refine wpC_seq ?_
  refine wpC_region ?_
  refine wpF_run 1 [(31, (.slice a_l n_l c_l))] (by kernel_rfl) ?_
  refine wpF_step (op_callAt (d := (some 32)) (by kernel_rfl) (c_rGet 8 _ h_l (by omega)) ?_)
  rintro _ _ ⟨rfl, rfl⟩
  refine wpF_run 5 [(10, (.int .i64 ((getE l 8 : Nat) : Int))), (9, (.int .u64 ((getV l 8 : Nat) : Int))), (34, (.int .i64 ((getE l 8 : Nat) : Int))), (33, (.int .u64 ((getV l 8 : Nat) : Int))), (30, (.tuple #[(.int .u64 ((getV l 8 : Nat) : Int)), (.int .i64 ((getE l 8 : Nat) : Int))]))] (by kernel_rfl) ?_
  refine wpF_end (by kernel_rfl) ?_
  refine then_code ?_
  refine wpC_seq ?_
  refine wpC_drawM (Ext w.drew) 47 [(36, 8, 0), (37, 34359738368, 1), (38, 32, 0), (39, 206158430208, 6), (40, 274877906944, 8), (41, 549755813904, 16), (42, 549755813952, 16), (43, 3848290697216, 112), (44, 4947802324992, 144), (45, 8796093022208, 272), (46, 17592186044544, 512), (47, 17592186044928, 512), (48, 123145302310912, 3584), (49, 158329674399744, 4608), (50, 281474976710656, 8704), (51, 562949953421568, 16384), (52, 562949953422336, 16384), (53, 3940649673949184, 114688), (54, 5066549580791808, 147456), (55, 9007199254740992, 278528), (56, 18014398509482048, 524288), (57, 54043195528445952, 1572864), (58, 90071992547409920, 2621440), (59, 144115188075855880, 4194304), (60, 432345564227567616, 12582912), (61, 720575940379279360, 20971520), (62, 144115188075855873, 4194304), (63, 2449958197289549824, 71303168), (64, 5908722711110090752, 171966464), (65, 9385501623440113664, 273154048), (66, 18464758472219033600, 537395200), (67, 36893488147419103232, 1090519040), (68, 73786976294838207488, 2147483648), (69, 221360928884514619392, 6442450944), (70, 368934881474191032320, 10737418240), (71, 590295810358705651840, 17179869184), (72, 1770887431076116955136, 51539607552), (73, 2951479051793528258560, 85899345920), (74, 590295810358705651713, 17179869184), (75, 10035028776097996079104, 292057776128), (76, 24202128224706931720192, 704374636544), (77, 38443014649610705567744, 1118838980608), (78, 75631650702209161625600, 2201170739200), (79, 151115727451828646838272, 4466765987840), (80, 302231454903657293676544, 8796093022208), (81, 906694364710971881029632, 26388279066624), (3, 1208925819614629174706176, 70368744177663)] (by kernel_rfl) ⟨by kernel_rfl, by kernel_rfl, by kernel_rfl⟩ (fun hT765 => ?_)
  have hEw1 : Ext w w.drew := Ext.drew w
  generalize w.drew = w1 at hEw1 ⊢
  have hzw1 := hEw1.size
  refine anyM_run hT765 0 1 [(35, (.int .u32 ((getV l 4 : Nat) : Int)))] (QPan.then put_panic_bodyPost) (by kernel_rfl) (by kernel_rfl) (show Ext w1 w1 from (Ext.refl _)) (fun _ => by kernel_rfl) ?_
  refine anyM_take hT765 1 3 (some 36) (.int .u64 ((getV l 4 : Nat) : Int)) (QPan.then put_panic_bodyPost) (by kernel_rfl) (by kernel_rfl) (show Ext w1 w1 from (Ext.refl _)) (yld_valAt (u := (.int .u64 (IntKind.u64.wrap ((getV l 4 : Nat) : Int)))) (fun _ => by kernel_rfl) (congrArg (Value.int .u64) (wrapUx rfl rfl (by show _ < 2 ^ 64; have := getV_lt l 4; omega))) ⟨_, (show Ext w1 w1 from (Ext.refl _))⟩) ?_
  refine anyM_run hT765 2 7 [(37, (.int .u64 ((getV l 4 : Nat) : Int)))] (QPan.then put_panic_bodyPost) (by kernel_rfl) (by kernel_rfl) (show Ext w1 w1 from (Ext.refl _)) (fun _ => by kernel_rfl) ?_
  refine anyM_take hT765 3 15 (some 38) (.bool true) (QPan.then put_panic_bodyPost) (by kernel_rfl) (by kernel_rfl) (show Ext w1 w1 from (Ext.refl _)) (yld_valAt (u := (.bool ((((getV l 4 : Nat) : Int) == ((getV l 4 : Nat) : Int))))) (fun _ => by kernel_rfl) (congrArg Value.bool (cmpEqT (by rfl))) ⟨_, (show Ext w1 w1 from (Ext.refl _))⟩) ?_
  refine anyM_run hT765 4 31 [(39, (.bool true))] (QPan.then put_panic_bodyPost) (by kernel_rfl) (by kernel_rfl) (show Ext w1 w1 from (Ext.refl _)) (fun _ => by kernel_rfl) ?_
  refine anyM_run hT765 5 63 [(40, (.int .i64 ((getE l 4 : Nat) : Int)))] (QPan.then put_panic_bodyPost) (by kernel_rfl) (by kernel_rfl) (show Ext w1 w1 from (Ext.refl _)) (fun _ => by kernel_rfl) ?_
  refine anyM_run hT765 6 127 [(41, (.int .i64 ((getE l 4 : Nat) : Int)))] (QPan.then put_panic_bodyPost) (by kernel_rfl) (by kernel_rfl) (show Ext w1 w1 from (Ext.refl _)) (fun _ => by kernel_rfl) ?_
  refine anyM_take hT765 7 255 (some 42) (.bool true) (QPan.then put_panic_bodyPost) (by kernel_rfl) (by kernel_rfl) (show Ext w1 w1 from (Ext.refl _)) (yld_valAt (u := (.bool ((((getE l 4 : Nat) : Int) == ((getE l 4 : Nat) : Int))))) (fun _ => by kernel_rfl) (congrArg Value.bool (cmpEqT (by rfl))) ⟨_, (show Ext w1 w1 from (Ext.refl _))⟩) ?_
  refine anyM_run hT765 8 511 [(43, (.bool true))] (QPan.then put_panic_bodyPost) (by kernel_rfl) (by kernel_rfl) (show Ext w1 w1 from (Ext.refl _)) (fun _ => by kernel_rfl) ?_
  refine anyM_run hT765 9 1023 [(44, (.bool true))] (QPan.then put_panic_bodyPost) (by kernel_rfl) (by kernel_rfl) (show Ext w1 w1 from (Ext.refl _)) (fun _ => by kernel_rfl) ?_
  refine anyM_run hT765 10 2047 [(45, (.int .u64 ((getV l 8 : Nat) : Int)))] (QPan.then put_panic_bodyPost) (by kernel_rfl) (by kernel_rfl) (show Ext w1 w1 from (Ext.refl _)) (fun _ => by kernel_rfl) ?_
  refine anyM_run hT765 11 4095 [(46, (.int .u64 ((getV l 8 : Nat) : Int)))] (QPan.then put_panic_bodyPost) (by kernel_rfl) (by kernel_rfl) (show Ext w1 w1 from (Ext.refl _)) (fun _ => by kernel_rfl) ?_
  refine anyM_take hT765 12 8191 (some 47) (.bool true) (QPan.then put_panic_bodyPost) (by kernel_rfl) (by kernel_rfl) (show Ext w1 w1 from (Ext.refl _)) (yld_valAt (u := (.bool ((((getV l 8 : Nat) : Int) == ((getV l 8 : Nat) : Int))))) (fun _ => by kernel_rfl) (congrArg Value.bool (cmpEqT (by rfl))) ⟨_, (show Ext w1 w1 from (Ext.refl _))⟩) ?_
  refine anyM_run hT765 13 16383 [(48, (.bool true))] (QPan.then put_panic_bodyPost) (by kernel_rfl) (by kernel_rfl) (show Ext w1 w1 from (Ext.refl _)) (fun _ => by kernel_rfl) ?_
  refine anyM_run hT765 14 32767 [(49, (.bool true))] (QPan.then put_panic_bodyPost) (by kernel_rfl) (by kernel_rfl) (show Ext w1 w1 from (Ext.refl _)) (fun _ => by kernel_rfl) ?_
  refine anyM_run hT765 15 65535 [(50, (.int .i64 ((getE l 8 : Nat) : Int)))] (QPan.then put_panic_bodyPost) (by kernel_rfl) (by kernel_rfl) (show Ext w1 w1 from (Ext.refl _)) (fun _ => by kernel_rfl) ?_
  refine anyM_run hT765 16 131071 [(51, (.int .i64 ((getE l 8 : Nat) : Int)))] (QPan.then put_panic_bodyPost) (by kernel_rfl) (by kernel_rfl) (show Ext w1 w1 from (Ext.refl _)) (fun _ => by kernel_rfl) ?_
  refine anyM_take hT765 17 262143 (some 52) (.bool true) (QPan.then put_panic_bodyPost) (by kernel_rfl) (by kernel_rfl) (show Ext w1 w1 from (Ext.refl _)) (yld_valAt (u := (.bool ((((getE l 8 : Nat) : Int) == ((getE l 8 : Nat) : Int))))) (fun _ => by kernel_rfl) (congrArg Value.bool (cmpEqT (by rfl))) ⟨_, (show Ext w1 w1 from (Ext.refl _))⟩) ?_
  refine anyM_run hT765 18 524287 [(53, (.bool true))] (QPan.then put_panic_bodyPost) (by kernel_rfl) (by kernel_rfl) (show Ext w1 w1 from (Ext.refl _)) (fun _ => by kernel_rfl) ?_
  refine anyM_run hT765 19 1048575 [(54, (.bool true))] (QPan.then put_panic_bodyPost) (by kernel_rfl) (by kernel_rfl) (show Ext w1 w1 from (Ext.refl _)) (fun _ => by kernel_rfl) ?_
  refine anyM_run hT765 20 2097151 [(55, (.int .i64 ((getE l 4 : Nat) : Int)))] (QPan.then put_panic_bodyPost) (by kernel_rfl) (by kernel_rfl) (show Ext w1 w1 from (Ext.refl _)) (fun _ => by kernel_rfl) ?_
  refine anyM_take hT765 21 4194303 (some 56) (.bool true) (QPan.then put_panic_bodyPost) (by kernel_rfl) (by kernel_rfl) (show Ext w1 w1 from (Ext.refl _)) (yld_valAt (u := (.bool ((((getE l 4 : Nat) : Int) != ((0 : Nat) : Int))))) (fun _ => by kernel_rfl) (congrArg Value.bool (cmpNeT (by omega))) ⟨_, (show Ext w1 w1 from (Ext.refl _))⟩) ?_
  refine anyM_run hT765 22 8388607 [(57, (.bool true))] (QPan.then put_panic_bodyPost) (by kernel_rfl) (by kernel_rfl) (show Ext w1 w1 from (Ext.refl _)) (fun _ => by kernel_rfl) ?_
  refine anyM_run hT765 23 16777215 [(58, undef)] (QPan.then put_panic_bodyPost) (by kernel_rfl) (by kernel_rfl) (show Ext w1 w1 from (Ext.refl _)) (fun _ => by kernel_rfl) ?_
  refine anyM_run hT765 24 33554431 [(59, undef)] (QPan.then put_panic_bodyPost) (by kernel_rfl) (by kernel_rfl) (show Ext w1 w1 from (Ext.refl _)) (fun _ => by kernel_rfl) ?_
  refine anyM_run hT765 25 67108863 [(60, undef)] (QPan.then put_panic_bodyPost) (by kernel_rfl) (by kernel_rfl) (show Ext w1 w1 from (Ext.refl _)) (fun _ => by kernel_rfl) ?_
  refine anyM_run hT765 26 134217727 [(61, undef)] (QPan.then put_panic_bodyPost) (by kernel_rfl) (by kernel_rfl) (show Ext w1 w1 from (Ext.refl _)) (fun _ => by kernel_rfl) ?_
  refine anyM_run hT765 27 268435455 [(62, undef)] (QPan.then put_panic_bodyPost) (by kernel_rfl) (by kernel_rfl) (show Ext w1 w1 from (Ext.refl _)) (fun _ => by kernel_rfl) ?_
  refine anyM_run hT765 28 536870911 [(63, undef)] (QPan.then put_panic_bodyPost) (by kernel_rfl) (by kernel_rfl) (show Ext w1 w1 from (Ext.refl _)) (fun _ => by kernel_rfl) ?_
  refine anyM_run hT765 29 1073741823 [(64, (.bool true))] (QPan.then put_panic_bodyPost) (by kernel_rfl) (by kernel_rfl) (show Ext w1 w1 from (Ext.refl _)) (fun _ => by kernel_rfl) ?_
  refine anyM_run hT765 30 2147483647 [(65, (.bool true))] (QPan.then put_panic_bodyPost) (by kernel_rfl) (by kernel_rfl) (show Ext w1 w1 from (Ext.refl _)) (fun _ => by kernel_rfl) ?_
  refine anyM_run hT765 31 4294967295 [(66, (.bool true))] (QPan.then put_panic_bodyPost) (by kernel_rfl) (by kernel_rfl) (show Ext w1 w1 from (Ext.refl _)) (fun _ => by kernel_rfl) ?_
  refine anyM_run hT765 32 8589934591 [(67, (.int .i64 ((getE l 8 : Nat) : Int)))] (QPan.then put_panic_bodyPost) (by kernel_rfl) (by kernel_rfl) (show Ext w1 w1 from (Ext.refl _)) (fun _ => by kernel_rfl) ?_
  refine anyM_take hT765 33 17179869183 (some 68) (.bool true) (QPan.then put_panic_bodyPost) (by kernel_rfl) (by kernel_rfl) (show Ext w1 w1 from (Ext.refl _)) (yld_valAt (u := (.bool ((((getE l 8 : Nat) : Int) != ((0 : Nat) : Int))))) (fun _ => by kernel_rfl) (congrArg Value.bool (cmpNeT (by omega))) ⟨_, (show Ext w1 w1 from (Ext.refl _))⟩) ?_
  refine anyM_run hT765 34 34359738367 [(69, (.bool true))] (QPan.then put_panic_bodyPost) (by kernel_rfl) (by kernel_rfl) (show Ext w1 w1 from (Ext.refl _)) (fun _ => by kernel_rfl) ?_
  refine anyM_run hT765 35 68719476735 [(70, undef)] (QPan.then put_panic_bodyPost) (by kernel_rfl) (by kernel_rfl) (show Ext w1 w1 from (Ext.refl _)) (fun _ => by kernel_rfl) ?_
  refine anyM_run hT765 36 137438953471 [(71, undef)] (QPan.then put_panic_bodyPost) (by kernel_rfl) (by kernel_rfl) (show Ext w1 w1 from (Ext.refl _)) (fun _ => by kernel_rfl) ?_
  refine anyM_run hT765 37 274877906943 [(72, undef)] (QPan.then put_panic_bodyPost) (by kernel_rfl) (by kernel_rfl) (show Ext w1 w1 from (Ext.refl _)) (fun _ => by kernel_rfl) ?_
  refine anyM_run hT765 38 549755813887 [(73, undef)] (QPan.then put_panic_bodyPost) (by kernel_rfl) (by kernel_rfl) (show Ext w1 w1 from (Ext.refl _)) (fun _ => by kernel_rfl) ?_
  refine anyM_run hT765 39 1099511627775 [(74, undef)] (QPan.then put_panic_bodyPost) (by kernel_rfl) (by kernel_rfl) (show Ext w1 w1 from (Ext.refl _)) (fun _ => by kernel_rfl) ?_
  refine anyM_run hT765 40 2199023255551 [(75, undef)] (QPan.then put_panic_bodyPost) (by kernel_rfl) (by kernel_rfl) (show Ext w1 w1 from (Ext.refl _)) (fun _ => by kernel_rfl) ?_
  refine anyM_run hT765 41 4398046511103 [(76, (.bool true))] (QPan.then put_panic_bodyPost) (by kernel_rfl) (by kernel_rfl) (show Ext w1 w1 from (Ext.refl _)) (fun _ => by kernel_rfl) ?_
  refine anyM_run hT765 42 8796093022207 [(77, (.bool true))] (QPan.then put_panic_bodyPost) (by kernel_rfl) (by kernel_rfl) (show Ext w1 w1 from (Ext.refl _)) (fun _ => by kernel_rfl) ?_
  refine anyM_run hT765 43 17592186044415 [(78, (.bool true))] (QPan.then put_panic_bodyPost) (by kernel_rfl) (by kernel_rfl) (show Ext w1 w1 from (Ext.refl _)) (fun _ => by kernel_rfl) ?_
  refine anyM_one 44 35184372088831 (by kernel_rfl) (by kernel_rfl) (op_callAt (d := (some 79)) (by kernel_rfl) (c_lives1 _) ?_)
  rintro _ w2 ⟨rfl, hEw2⟩
  have hzw2 := hEw2.size
  refine ⟨.inr hEw2, ?_⟩
  refine anyM_run hT765 45 70368744177663 [(80, (.bool true))] (QPan.then put_panic_bodyPost) (by kernel_rfl) (by kernel_rfl) (show Ext w1 w2 from hEw2) (fun _ => by kernel_rfl) ?_
  refine anyM_run hT765 46 140737488355327 [(2, (.bool true))] (QPan.then put_panic_bodyPost) (by kernel_rfl) (by kernel_rfl) (show Ext w1 w2 from hEw2) (fun _ => by kernel_rfl) ?_
  refine anyM_done (by kernel_rfl) ?_
  refine then_code ?_
  refine wpC_ret ?_
  refine body_ret1 (by kernel_rfl) (show resVal Try.prog 81 _ _ (.tmp 2) (.bool true) by (show _ = _; kernel_rfl)) ?_
  exact ⟨rfl, (hEw1.trans hEw2)⟩

theorem c_WordsGet {lo_l hi_l : Nat} {a_l : Option Addr} {n_l c_l : Nat} {l : List UInt8} (w : World) (h_l : Bs lo_l hi_l w a_l n_l c_l l) :
    Calls Try.prog 4 #[(.slice a_l n_l c_l)] w (Ret fun r w' => r = (.bool true) ∧ Ext w w') := by
  by_cases h0 : 12 < n_l
  · exact c_WordsGet0 w h_l h0
  · by_cases h4 : n_l = 4
    · exact c_WordsGet4 w h_l h4
    · by_cases h8 : n_l = 8
      · exact c_WordsGet8 w h_l h8
      · exact c_WordsGet9 w h_l h4 h8 (by omega)

theorem c_WordsXor0 {lo_a hi_a : Nat} {a_a : Option Addr} {n_a c_a : Nat} {a : List UInt8} {lo_b hi_b : Nat} {a_b : Option Addr} {n_b c_b : Nat} {b : List UInt8}  (w : World) (h_a : Bs lo_a hi_a w a_a n_a c_a a) (h_b : Bs lo_b hi_b w a_b n_b c_b b) (hp0 : 40 < n_a) :
    Calls Try.prog 6 #[(.slice a_a n_a c_a), (.slice a_b n_b c_b)] w (Ret fun r w' => r = (.bool true) ∧ Ext w w') := by
  refine calls_of (n := 85) (σ := [(0, (.slice a_a n_a c_a)), (1, (.slice a_b n_b c_b))]) Try.func6 rfl (by kernel_rfl) ?_
  replace h_a := h_a.now; have hle_a := h_a.le
  replace h_b := h_b.now; have hle_b := h_b.le
  refine wpC_seq ?_
  refine wpC_region ?_
  refine wpF_run 1 [(4, (.bool false))] (by kernel_rfl) ?_
  refine wpF_end (by kernel_rfl) ?_
  refine then_code ?_
  refine wpC_seq ?_
  refine wpC_seq ?_
  refine wpC_region ?_
  refine wpF_run 2 [(13, (.int .i64 ((n_a : Nat) : Int))), (12, (.slice a_a n_a c_a))] (by kernel_rfl) ?_
  refine wpF_step (op_eqv (d := (some 14)) (.bool (decide (((n_a : Nat) : Int) > ((40 : Nat) : Int)))) (.bool true) (by kernel_rfl) (congrArg Value.bool (cmpDT (by omega))) ?_)
  refine wpF_run 5 [(19, (.bool true)), (18, undef), (17, undef), (16, undef), (15, (.bool true))] (by kernel_rfl) ?_
  refine wpF_end (by kernel_rfl) ?_
  refine then_code ?_
  refine wpC_true (by kernel_rfl) ?_
  refine wpC_seq ?_
  refine wpC_region ?_
  refine wpF_step (op_callAt (d := (some 20)) (by kernel_rfl) (c_lives1 _) ?_)
  rintro _ w1 ⟨rfl, hEw1⟩
  have hzw1 := hEw1.size
  refine wpF_run 1 [(4, (.bool true))] (by kernel_rfl) ?_
  refine wpF_end (by kernel_rfl) ?_
  refine then_code ?_
  refine wpC_ret ?_
  refine then_ret ?_
  refine body_ret1 (by kernel_rfl) (show resVal Try.prog 85 _ _ (.tmp 4) (.bool true) by (show _ = _; kernel_rfl)) ?_
  exact ⟨rfl, hEw1⟩

theorem c_WordsXor1 {lo_a hi_a : Nat} {a_a : Option Addr} {n_a c_a : Nat} {a : List UInt8} {lo_b hi_b : Nat} {a_b : Option Addr} {n_b c_b : Nat} {b : List UInt8}  (w : World) (h_a : Bs lo_a hi_a w a_a n_a c_a a) (h_b : Bs lo_b hi_b w a_b n_b c_b b) (hp0 : n_a ≤ 40) (hp1 : 40 < n_b) :
    Calls Try.prog 6 #[(.slice a_a n_a c_a), (.slice a_b n_b c_b)] w (Ret fun r w' => r = (.bool true) ∧ Ext w w') := by
  refine calls_of (n := 85) (σ := [(0, (.slice a_a n_a c_a)), (1, (.slice a_b n_b c_b))]) Try.func6 rfl (by kernel_rfl) ?_
  replace h_a := h_a.now; have hle_a := h_a.le
  replace h_b := h_b.now; have hle_b := h_b.le
  refine wpC_seq ?_
  refine wpC_region ?_
  refine wpF_run 1 [(4, (.bool false))] (by kernel_rfl) ?_
  refine wpF_end (by kernel_rfl) ?_
  refine then_code ?_
  refine wpC_seq ?_
  refine wpC_seq ?_
  refine wpC_region ?_
  refine wpF_run 2 [(13, (.int .i64 ((n_a : Nat) : Int))), (12, (.slice a_a n_a c_a))] (by kernel_rfl) ?_
  refine wpF_step (op_eqv (d := (some 14)) (.bool (decide (((n_a : Nat) : Int) > ((40 : Nat) : Int)))) (.bool false) (by kernel_rfl) (congrArg Value.bool (cmpDF (by omega))) ?_)
  refine wpF_run 3 [(17, (.int .i64 ((n_b : Nat) : Int))), (16, (.slice a_b n_b c_b)), (15, (.bool false))] (by kernel_rfl) ?_
  refine wpF_step (op_eqv (d := (some 18)) (.bool (decide (((n_b : Nat) : Int) > ((40 : Nat) : Int)))) (.bool true) (by kernel_rfl) (congrArg Value.bool (cmpDT (by omega))) ?_)
  refine wpF_run 1 [(19, (.bool true))] (by kernel_rfl) ?_
  refine wpF_end (by kernel_rfl) ?_
  refine then_code ?_
  refine wpC_true (by kernel_rfl) ?_
  refine wpC_seq ?_
  refine wpC_region ?_
  refine wpF_step (op_callAt (d := (some 20)) (by kernel_rfl) (c_lives1 _) ?_)
  rintro _ w1 ⟨rfl, hEw1⟩
  have hzw1 := hEw1.size
  refine wpF_run 1 [(4, (.bool true))] (by kernel_rfl) ?_
  refine wpF_end (by kernel_rfl) ?_
  refine then_code ?_
  refine wpC_ret ?_
  refine then_ret ?_
  refine body_ret1 (by kernel_rfl) (show resVal Try.prog 85 _ _ (.tmp 4) (.bool true) by (show _ = _; kernel_rfl)) ?_
  exact ⟨rfl, hEw1⟩

theorem c_WordsXor2 {lo_a hi_a : Nat} {a_a : Option Addr} {n_a c_a : Nat} {a : List UInt8} {lo_b hi_b : Nat} {a_b : Option Addr} {n_b c_b : Nat} {b : List UInt8}  (w : World) (h_a : Bs lo_a hi_a w a_a n_a c_a a) (h_b : Bs lo_b hi_b w a_b n_b c_b b) (hp0 : n_a ≤ 40) (hp1 : n_b < n_a) :
    Calls Try.prog 6 #[(.slice a_a n_a c_a), (.slice a_b n_b c_b)] w (Ret fun r w' => r = (.bool true) ∧ Ext w w') := by
  refine calls_of (n := 85) (σ := [(0, (.slice a_a n_a c_a)), (1, (.slice a_b n_b c_b))]) Try.func6 rfl (by kernel_rfl) ?_
  replace h_a := h_a.now; have hle_a := h_a.le
  replace h_b := h_b.now; have hle_b := h_b.le
  refine wpC_seq ?_
  refine wpC_region ?_
  refine wpF_run 1 [(4, (.bool false))] (by kernel_rfl) ?_
  refine wpF_end (by kernel_rfl) ?_
  refine then_code ?_
  refine wpC_seq ?_
  refine wpC_seq ?_
  refine wpC_region ?_
  refine wpF_run 2 [(13, (.int .i64 ((n_a : Nat) : Int))), (12, (.slice a_a n_a c_a))] (by kernel_rfl) ?_
  refine wpF_step (op_eqv (d := (some 14)) (.bool (decide (((n_a : Nat) : Int) > ((40 : Nat) : Int)))) (.bool false) (by kernel_rfl) (congrArg Value.bool (cmpDF (by omega))) ?_)
  refine wpF_run 3 [(17, (.int .i64 ((n_b : Nat) : Int))), (16, (.slice a_b n_b c_b)), (15, (.bool false))] (by kernel_rfl) ?_
  refine wpF_step (op_eqv (d := (some 18)) (.bool (decide (((n_b : Nat) : Int) > ((40 : Nat) : Int)))) (.bool false) (by kernel_rfl) (congrArg Value.bool (cmpDF (by omega))) ?_)
  refine wpF_run 1 [(19, (.bool false))] (by kernel_rfl) ?_
  refine wpF_end (by kernel_rfl) ?_
  refine then_code ?_
  refine wpC_false (by kernel_rfl) ?_
  refine wpC_skip ?_
  refine then_code ?_
  refine wpC_seq ?_
  refine wpC_region ?_
  refine wpF_run 2 [(23, (.slice a_b n_b c_b)), (22, (.slice a_a n_a c_a))] (by kernel_rfl) ?_
  refine wpF_step (op_callAt (d := (some 24)) (by kernel_rfl) (c_XorShort _ h_a h_b (by omega)) ?_)
  rintro _ w1 ⟨rfl, hEw1⟩
  have hzw1 := hEw1.size
  refine wpF_run 5 [(6, (.int .i64 ((6 : Nat) : Int))), (5, (.slice none 0 0)), (26, (.int .i64 ((6 : Nat) : Int))), (25, (.slice none 0 0)), (21, (.tuple #[(.slice none 0 0), (.int .i64 ((6 : Nat) : Int))]))] (by kernel_rfl) ?_
  refine wpF_end (by kernel_rfl) ?_
  refine then_code ?_
  refine wpC_seq ?_
  refine wpC_block ?_
  refine wpC_seq ?_
  refine wpC_region ?_
  refine wpF_run 4 [(31, (.int .i64 ((n_a : Nat) : Int))), (30, (.slice a_a n_a c_a)), (29, (.int .i64 ((n_b : Nat) : Int))), (28, (.slice a_b n_b c_b))] (by kernel_rfl) ?_
  refine wpF_step (op_eqv (d := (some 32)) (.bool (decide (((n_b : Nat) : Int) < ((n_a : Nat) : Int)))) (.bool true) (by kernel_rfl) (congrArg Value.bool (cmpDT (by omega))) ?_)
  refine wpF_run 1 [(27, (.bool true))] (by kernel_rfl) ?_
  refine wpF_end (by kernel_rfl) ?_
  refine then_code ?_
  refine wpC_true (by kernel_rfl) ?_
  refine wpC_seq ?_
  refine wpC_region ?_
  refine wpF_run 2 [(34, (.int .i64 ((6 : Nat) : Int))), (33, (.slice none 0 0))] (by kernel_rfl) ?_
  refine wpF_step (op_callAt (d := (some 35)) (by kernel_rfl) (c_same1 6 6 _ (Bs.nil 0 0 _) (Bs.nil 0 0 _) (rfl) (by first | rfl | assumption) (rfl)) ?_)
  rintro _ _ ⟨rfl, rfl⟩
  refine wpF_run 1 [(36, (.bool true))] (by kernel_rfl) ?_
  refine wpF_step (op_callAt (d := (some 37)) (by kernel_rfl) (c_lives1 _) ?_)
  rintro _ w2 ⟨rfl, hEw2⟩
  have hzw2 := hEw2.size
  refine wpF_run 2 [(4, (.bool true)), (38, (.bool true))] (by kernel_rfl) ?_
  refine wpF_end (by kernel_rfl) ?_
  refine then_code ?_
  refine wpC_ret ?_
  refine inBlock_ret ?_
  refine then_ret ?_
  refine body_ret1 (by kernel_rfl) (show resVal Try.prog 85 _ _ (.tmp 4) (.bool true) by (show _ = _; kernel_rfl)) ?_
  exact ⟨rfl, (hEw1.trans hEw2)⟩

theorem c_WordsXor3 {lo_a hi_a : Nat} {a_a : Option Addr} {n_a c_a : Nat} {a : List UInt8} {lo_b hi_b : Nat} {a_b : Option Addr} {n_b c_b : Nat} {b : List UInt8}  (w : World) (h_a : Bs lo_a hi_a w a_a n_a c_a a) (h_b : Bs lo_b hi_b w a_b n_b c_b b) (hp0 : n_b ≤ 40) (hp1 : n_a < n_b) :
    Calls Try.prog 6 #[(.slice a_a n_a c_a), (.slice a_b n_b c_b)] w (Ret fun r w' => r = (.bool true) ∧ Ext w w') := by
  refine calls_of (n := 85) (σ := [(0, (.slice a_a n_a c_a)), (1, (.slice a_b n_b c_b))]) Try.func6 rfl (by kernel_rfl) ?_
  replace h_a := h_a.now; have hle_a := h_a.le
  replace h_b := h_b.now; have hle_b := h_b.le
  refine wpC_seq ?_
  refine wpC_region ?_
  refine wpF_run 1 [(4, (.bool false))] (by kernel_rfl) ?_
  refine wpF_end (by kernel_rfl) ?_
  refine then_code ?_
  refine wpC_seq ?_
  refine wpC_seq ?_
  refine wpC_region ?_
  refine wpF_run 2 [(13, (.int .i64 ((n_a : Nat) : Int))), (12, (.slice a_a n_a c_a))] (by kernel_rfl) ?_
  refine wpF_step (op_eqv (d := (some 14)) (.bool (decide (((n_a : Nat) : Int) > ((40 : Nat) : Int)))) (.bool false) (by kernel_rfl) (congrArg Value.bool (cmpDF (by omega))) ?_)
  refine wpF_run 3 [(17, (.int .i64 ((n_b : Nat) : Int))), (16, (.slice a_b n_b c_b)), (15, (.bool false))] (by kernel_rfl) ?_
  refine wpF_step (op_eqv (d := (some 18)) (.bool (decide (((n_b : Nat) : Int) > ((40 : Nat) : Int)))) (.bool false) (by kernel_rfl) (congrArg Value.bool (cmpDF (by omega))) ?_)
  refine wpF_run 1 [(19, (.bool false))] (by kernel_rfl) ?_
  refine wpF_end (by kernel_rfl) ?_
  refine then_code ?_
  refine wpC_false (by kernel_rfl) ?_
  refine wpC_skip ?_
  refine then_code ?_
  refine wpC_seq ?_
  refine wpC_region ?_
  refine wpF_run 2 [(23, (.slice a_b n_b c_b)), (22, (.slice a_a n_a c_a))] (by kernel_rfl) ?_
  refine wpF_step (op_callAt (d := (some 24)) (by kernel_rfl) (c_XorLong _ h_a h_b (by omega)) ?_)
  rintro _ w1 ⟨rfl, hEw1⟩
  have hzw1 := hEw1.size
  refine wpF_run 5 [(6, (.int .i64 ((5 : Nat) : Int))), (5, (.slice none 0 0)), (26, (.int .i64 ((5 : Nat) : Int))), (25, (.slice none 0 0)), (21, (.tuple #[(.slice none 0 0), (.int .i64 ((5 : Nat) : Int))]))] (by kernel_rfl) ?_
  refine wpF_end (by kernel_rfl) ?_
  refine then_code ?_
  refine wpC_seq ?_
  refine wpC_block ?_
  refine wpC_seq ?_
  refine wpC_region ?_
  refine wpF_run 4 [(31, (.int .i64 ((n_a : Nat) : Int))), (30, (.slice a_a n_a c_a)), (29, (.int .i64 ((n_b : Nat) : Int))), (28, (.slice a_b n_b c_b))] (by kernel_rfl) ?_
  refine wpF_step (op_eqv (d := (some 32)) (.bool (decide (((n_b : Nat) : Int) < ((n_a : Nat) : Int)))) (.bool false) (by kernel_rfl) (congrArg Value.bool (cmpDF (by omega))) ?_)
  refine wpF_run 1 [(27, (.bool false))] (by kernel_rfl) ?_
  refine wpF_end (by kernel_rfl) ?_
  refine then_code ?_
  refine wpC_false (by kernel_rfl) ?_
  refine wpC_seq ?_
  refine wpC_region ?_
  refine wpF_run 4 [(43, (.int .i64 ((n_a : Nat) : Int))), (42, (.slice a_a n_a c_a)), (41, (.int .i64 ((n_b : Nat) : Int))), (40, (.slice a_b n_b c_b))] (by kernel_rfl) ?_
  refine wpF_step (op_eqv (d := (some 44)) (.bool (decide (((n_b : Nat) : Int) > ((n_a : Nat) : Int)))) (.bool true) (by kernel_rfl) (congrArg Value.bool (cmpDT (by omega))) ?_)
  refine wpF_run 1 [(39, (.bool true))] (by kernel_rfl) ?_
  refine wpF_end (by kernel_rfl) ?_
  refine then_code ?_
  refine wpC_true (by kernel_rfl) ?_
  refine wpC_seq ?_
  refine wpC_region ?_
  refine wpF_run 2 [(46, (.int .i64 ((5 : Nat) : Int))), (45, (.slice none 0 0))] (by kernel_rfl) ?_
  refine wpF_step (op_callAt (d := (some 47)) (by kernel_rfl) (c_same1 5 5 _ (Bs.nil 0 0 _) (Bs.nil 0 0 _) (rfl) (by first | rfl | assumption) (rfl)) ?_)
  rintro _ _ ⟨rfl, rfl⟩
  refine wpF_run 1 [(48, (.bool true))] (by kernel_rfl) ?_
  refine wpF_step (op_callAt (d := (some 49)) (by kernel_rfl) (c_lives1 _) ?_)
  rintro _ w2 ⟨rfl, hEw2⟩
  have hzw2 := hEw2.size
  refine wpF_run 2 [(4, (.bool true)), (50, (.bool true))] (by kernel_rfl) ?_
  refine wpF_end (by kernel_rfl) ?_
  refine then_code ?_
  refine wpC_ret ?_
  refine inBlock_ret ?_
  refine then_ret ?_
  refine body_ret1 (by kernel_rfl) (show resVal Try.prog 85 _ _ (.tmp 4) (.bool true) by (show _ = _; kernel_rfl)) ?_
  exact ⟨rfl, (hEw1.trans hEw2)⟩

theorem c_WordsXor4 {lo_a hi_a : Nat} {a_a : Option Addr} {n_a c_a : Nat} {a : List UInt8} {lo_b hi_b : Nat} {a_b : Option Addr} {n_b c_b : Nat} {b : List UInt8}  (w : World) (h_a : Bs lo_a hi_a w a_a n_a c_a a) (h_b : Bs lo_b hi_b w a_b n_b c_b b) (hp0 : n_a ≤ 40) (hp1 : n_a = n_b) :
    Calls Try.prog 6 #[(.slice a_a n_a c_a), (.slice a_b n_b c_b)] w (Ret fun r w' => r = (.bool true) ∧ Ext w w') := by
  refine calls_of (n := 85) (σ := [(0, (.slice a_a n_a c_a)), (1, (.slice a_b n_b c_b))]) Try.func6 rfl (by kernel_rfl) ?_
  replace h_a := h_a.now; have hle_a := h_a.le
  replace h_b := h_b.now; have hle_b := h_b.le
  refine wpC_seq ?_
  refine wpC_region ?_
  refine wpF_run 1 [(4, (.bool false))] (by kernel_rfl) ?_
  refine wpF_end (by kernel_rfl) ?_
  refine then_code ?_
  refine wpC_seq ?_
  refine wpC_seq ?_
  refine wpC_region ?_
  refine wpF_run 2 [(13, (.int .i64 ((n_a : Nat) : Int))), (12, (.slice a_a n_a c_a))] (by kernel_rfl) ?_
  refine wpF_step (op_eqv (d := (some 14)) (.bool (decide (((n_a : Nat) : Int) > ((40 : Nat) : Int)))) (.bool false) (by kernel_rfl) (congrArg Value.bool (cmpDF (by omega))) ?_)
  refine wpF_run 3 [(17, (.int .i64 ((n_b : Nat) : Int))), (16, (.slice a_b n_b c_b)), (15, (.bool false))] (by kernel_rfl) ?_
  refine wpF_step (op_eqv (d := (some 18)) (.bool (decide (((n_b : Nat) : Int) > ((40 : Nat) : Int)))) (.bool false) (by kernel_rfl) (congrArg Value.bool (cmpDF (by omega))) ?_)
  refine wpF_run 1 [(19, (.bool false))] (by kernel_rfl) ?_
  refine wpF_end (by kernel_rfl) ?_
  refine then_code ?_
  refine wpC_false (by kernel_rfl) ?_
  refine wpC_skip ?_
  refine then_code ?_
  refine wpC_seq ?_
  refine wpC_region ?_
  refine wpF_run 2 [(23, (.slice a_b n_b c_b)), (22, (.slice a_a n_a c_a))] (by kernel_rfl) ?_
  refine wpF_step (op_callAt (d := (some 24)) (by kernel_rfl) (c_Xor _ h_a h_b (by omega) (by omega)) ?_)
  rintro _ w1 ⟨a1, rfl, hFz1_0, hEw1⟩
  have hzw1 := hEw1.size
  refine wpF_run 5 [(6, (.int .i64 ((0 : Nat) : Int))), (5, (.slice a1 n_a n_a)), (26, (.int .i64 ((0 : Nat) : Int))), (25, (.slice a1 n_a n_a)), (21, (.tuple #[(.slice a1 n_a n_a), (.int .i64 ((0 : Nat) : Int))]))] (by kernel_rfl) ?_
  refine wpF_end (by kernel_rfl) ?_
  refine then_code ?_
  refine wpC_seq ?_
  refine wpC_block ?_
  refine wpC_seq ?_
  refine wpC_region ?_
  refine wpF_run 4 [(31, (.int .i64 ((n_a : Nat) : Int))), (30, (.slice a_a n_a c_a)), (29, (.int .i64 ((n_b : Nat) : Int))), (28, (.slice a_b n_b c_b))] (by kernel_rfl) ?_
  refine wpF_step (op_eqv (d := (some 32)) (.bool (decide (((n_b : Nat) : Int) < ((n_a : Nat) : Int)))) (.bool false) (by kernel_rfl) (congrArg Value.bool (cmpDF (by omega))) ?_)
  refine wpF_run 1 [(27, (.bool false))] (by kernel_rfl) ?_
  refine wpF_end (by kernel_rfl) ?_
  refine then_code ?_
  refine wpC_false (by kernel_rfl) ?_
  refine wpC_seq ?_
  refine wpC_region ?_
  refine wpF_run 4 [(43, (.int .i64 ((n_a : Nat) : Int))), (42, (.slice a_a n_a c_a)), (41, (.int .i64 ((n_b : Nat) : Int))), (40, (.slice a_b n_b c_b))] (by kernel_rfl) ?_
  refine wpF_step (op_eqv (d := (some 44)) (.bool (decide (((n_b : Nat) : Int) > ((n_a : Nat) : Int)))) (.bool false) (by kernel_rfl) (congrArg Value.bool (cmpDF (by omega))) ?_)
  refine wpF_run 1 [(39, (.bool false))] (by kernel_rfl) ?_
  refine wpF_end (by kernel_rfl) ?_
  refine then_code ?_
  refine wpC_false (by kernel_rfl) ?_
  refine wpC_skip ?_
  refine inBlock_normal ?_
  refine then_code ?_
  refine wpC_seq ?_
  refine wpC_region ?_
  refine wpF_run 2 [(53, (.slice a_a n_a c_a)), (52, (.slice a_b n_b c_b))] (by kernel_rfl) ?_
  refine wpF_step (op_callAt (d := (some 54)) (by kernel_rfl) (c_Xor _ (h_b.ext hEw1) (h_a.ext hEw1) (by omega) (by omega)) ?_)
  rintro _ w2 ⟨a2, rfl, hFz2_0, hEw2⟩
  have hzw2 := hEw2.size
  refine wpF_run 5 [(8, (.int .i64 ((0 : Nat) : Int))), (7, (.slice a2 n_b n_b)), (56, (.int .i64 ((0 : Nat) : Int))), (55, (.slice a2 n_b n_b)), (51, (.tuple #[(.slice a2 n_b n_b), (.int .i64 ((0 : Nat) : Int))]))] (by kernel_rfl) ?_
  refine wpF_end (by kernel_rfl) ?_
  refine then_code ?_
  refine wpC_seq ?_
  refine wpC_region ?_
  refine wpF_run 2 [(59, (.slice a1 n_a n_a)), (58, (.slice a_a n_a c_a))] (by kernel_rfl) ?_
  refine wpF_step (op_callAt (d := (some 60)) (by kernel_rfl) (c_Xor _ (((h_a.ext hEw1)).ext hEw2) (hFz1_0.ext hEw2) (by omega) (by omega)) ?_)
  rintro _ w3 ⟨a3, rfl, hFz3_0, hEw3⟩
  have hzw3 := hEw3.size
  refine wpF_run 5 [(10, (.int .i64 ((0 : Nat) : Int))), (9, (.slice a3 n_a n_a)), (62, (.int .i64 ((0 : Nat) : Int))), (61, (.slice a3 n_a n_a)), (57, (.tuple #[(.slice a3 n_a n_a), (.int .i64 ((0 : Nat) : Int))]))] (by kernel_rfl) ?_
  refine wpF_end (by kernel_rfl) ?_
  refine then_code ?_
  refine wpC_seq ?_
  refine wpC_region ?_
  refine wpF_run 2 [(64, (.slice a_b n_b c_b)), (63, (.slice a_a n_a c_a))] (by kernel_rfl) ?_
  refine wpF_step (op_callAt (d := (some 65)) (by kernel_rfl) (c_rXor _ (((((h_a.ext hEw1)).ext hEw2)).ext hEw3) (((((h_b.ext hEw1)).ext hEw2)).ext hEw3) (by omega) (by omega)) ?_)
  rintro _ w4 ⟨a4, ca4, rfl, hFz4_0, hEw4⟩
  have hzw4 := hEw4.size
  have hlea4 := hFz4_0.le
  have hba4 := hFz4_0.bs
  refine wpF_run 1 [(11, (.slice a4 n_a ca4))] (by kernel_rfl) ?_
  refine wpF_end (by kernel_rfl) ?_
  refine then_code ?_
  refine wpC_seq ?_
  refine wpC_region ?_
  refine wpF_run 3 [(68, (.slice a4 n_a ca4)), (67, (.int .i64 ((0 : Nat) : Int))), (66, (.slice a1 n_a n_a))] (by kernel_rfl) ?_
  refine wpF_step (op_callAt (d := (some 69)) (by kernel_rfl) (c_same1 0 0 _ (((((hFz1_0.ext hEw2)).ext hEw3)).ext hEw4) hba4 (rfl) (by first | rfl | assumption) (rfl)) ?_)
  rintro _ _ ⟨rfl, rfl⟩
  refine wpF_run 4 [(73, (.slice a4 n_a ca4)), (72, (.int .i64 ((0 : Nat) : Int))), (71, (.slice a2 n_b n_b)), (70, (.bool true))] (by kernel_rfl) ?_
  refine wpF_step (op_callAt (d := (some 74)) (by kernel_rfl) (c_same1 0 0 _ (((hFz2_0.ext hEw3)).ext hEw4) hba4 (rfl) (xorl_comm (by have := h_a.len_eq; have := h_b.len_eq; omega)) (rfl)) ?_)
  rintro _ _ ⟨rfl, rfl⟩
  refine wpF_run 5 [(79, (.slice a_b n_b c_b)), (78, (.int .i64 ((0 : Nat) : Int))), (77, (.slice a3 n_a n_a)), (76, (.bool true)), (75, (.bool true))] (by kernel_rfl) ?_
  refine wpF_step (op_callAt (d := (some 80)) (by kernel_rfl) (c_same1 0 0 _ (hFz3_0.ext hEw4) (((((((h_b.ext hEw1)).ext hEw2)).ext hEw3)).ext hEw4) (rfl) (xorl_xorl (by have := h_a.len_eq; have := h_b.len_eq; omega)) (rfl)) ?_)
  rintro _ _ ⟨rfl, rfl⟩
  refine wpF_run 2 [(82, (.bool true)), (81, (.bool true))] (by kernel_rfl) ?_
  refine wpF_step (op_callAt (d := (some 83)) (by kernel_rfl) (c_lives1 _) ?_)
  rintro _ w5 ⟨rfl, hEw5⟩
  have hzw5 := hEw5.size
  refine wpF_run 2 [(4, (.bool true)), (84, (.bool true))] (by kernel_rfl) ?_
  refine wpF_end (by kernel_rfl) ?_
  refine then_code ?_
  refine wpC_ret ?_
  refine body_ret1 (by kernel_rfl) (show resVal Try.prog 85 _ _ (.tmp 4) (.bool true) by (show _ = _; kernel_rfl)) ?_
  exact ⟨rfl, ((((hEw1.trans hEw2).trans hEw3).trans hEw4).trans hEw5)⟩

theorem c_WordsXor {lo_a hi_a : Nat} {a_a : Option Addr} {n_a c_a : Nat} {a : List UInt8} {lo_b hi_b : Nat} {a_b : Option Addr} {n_b c_b : Nat} {b : List UInt8} (w : World) (h_a : Bs lo_a hi_a w a_a n_a c_a a) (h_b : Bs lo_b hi_b w a_b n_b c_b b) :
    Calls Try.prog 6 #[(.slice a_a n_a c_a), (.slice a_b n_b c_b)] w (Ret fun r w' => r = (.bool true) ∧ Ext w w') := by
  by_cases h0 : 40 < n_a
  · exact c_WordsXor0 w h_a h_b h0
  by_cases h1 : 40 < n_b
  · exact c_WordsXor1 w h_a h_b (by omega) h1
  by_cases h2 : n_b < n_a
  · exact c_WordsXor2 w h_a h_b (by omega) h2
  by_cases h3 : n_a < n_b
  · exact c_WordsXor3 w h_a h_b (by omega) h3
  exact c_WordsXor4 w h_a h_b (by omega) (by omega)

end Go.Proofs.Ytigeaknjhnichaa
