/- CsL10k: what each function does, by its own code. No condition beyond those of each statement. -/
import Derived.Test.YtigeaknjhnichaaCsL10g
import Derived.Test.YtigeaknjhnichaaCsL10
namespace Go.Proofs.Ytigeaknjhnichaa
open Go Go.RowKit Go.Cs
set_option maxRecDepth 100000
set_option linter.all false
set_option linter.unusedVariables false

theorem c_RecordsKnown   (w : World)  :
    Calls Try.prog 14 #[] w (Ret fun r w' => r = (.bool true) ∧ Ext w w') := by
  refine calls_of (n := 87) (σ := []) Try.func14 rfl (by kernel_rfl) ?_
  refine wpC_seq ?_
  refine wpC_region ?_
  refine wpF_run 1 [(0, (.bool false))] (by kernel_rfl) ?_
  refine wpF_end (by kernel_rfl) ?_
  refine then_code ?_
  refine wpC_seq ?_
  refine wpC_seq ?_
  refine wpC_region ?_
  refine wpF_run 1 [(1, (.int .i64 ((0 : Nat) : Int)))] (by kernel_rfl) ?_
  refine wpF_end (by kernel_rfl) ?_
  refine then_code ?_
  refine wpC_block ?_
  refine wpC_loop (X := Nat) (fun t => [(1, (.int .i64 ((t : Nat) : Int)))]) [0, 2, 5, 6, 7, 8, 9, 10, 11, 12, 13, 14, 15, 16, 17, 18, 19, 20, 21, 22, 23, 24, 25, 26, 27, 28, 29, 30, 31, 32, 33, 34, 35, 36, 37, 38, 39, 40, 41, 42, 43, 44, 45, 46, 47, 48, 49, 50, 51, 52, 53, 54, 55] (fun t w1 => t ≤ 256 ∧ Ext w w1) (fun t => 256 - t) 0 (by kernel_rfl) ⟨by omega, (Ext.refl _)⟩ ?_
  rintro t dw1 w1 ⟨ht, hEl⟩
  have hzl := hEl.size
  refine wpC_seq ?_
  refine wpC_seq ?_
  refine wpC_region ?_
  refine wpF_run 1 [(5, (.int .i64 ((t : Nat) : Int)))] (by kernel_rfl) ?_
  refine wpF_step (op_split (d := (some 6)) (decide (((t : Nat) : Int) < ((256 : Nat) : Int))) (by kernel_rfl) (fun hc6 => ?_) (fun hc6 => ?_))
  · replace hc6 : t < 256 := by have := of_d_t hc6; omega
    refine wpF_end (by kernel_rfl) ?_
    refine then_code ?_
    refine wpC_true (by kernel_rfl) ?_
    refine wpC_skip ?_
    refine then_code ?_
    refine wpC_seq ?_
    refine wpC_block ?_
    refine wpC_seq ?_
    refine wpC_region ?_
    refine wpF_run 1 [(9, (.int .i64 ((t : Nat) : Int)))] (by kernel_rfl) ?_
    refine wpF_step (op_eqv (d := (some 10)) (.int .u8 (IntKind.u8.wrap ((t : Nat) : Int))) (.int .u8 ((t : Nat) : Int)) (by kernel_rfl) (congrArg (Value.int .u8) (wrapUx rfl rfl (by show _ < 2 ^ 8; omega))) ?_)
    refine wpF_run 1 [(2, (.int .u8 ((t : Nat) : Int)))] (by kernel_rfl) ?_
    refine wpF_end (by kernel_rfl) ?_
    refine then_code ?_
    refine wpC_seq ?_
    refine wpC_region ?_
    refine wpF_run 2 [(12, (.int .i64 ((t : Nat) : Int))), (11, (.int .u8 ((t : Nat) : Int)))] (by kernel_rfl) ?_
    refine wpF_step (op_eqv (d := (some 13)) (.int .i64 (IntKind.i64.wrap (((t : Nat) : Int) - ((3 : Nat) : Int)))) (.int .i64 ((t : Int) - 3)) (by kernel_rfl) (congrArg (Value.int .i64) (wrapS rfl (by omega) (by omega))) ?_)
    refine wpF_step (op_callAt (d := (some 14)) (by kernel_rfl) (c_RecordsSlots t ((t : Int) - 3) _) ?_)
    rintro _ w2 ⟨rfl, hEw2⟩
    have hzw2 := hEw2.size
    refine wpF_run 4 [(18, (.agg (recC (Rec.mk t Non.zero Dig.zero (by omega))).toArray)), (17, (.int .u8 ((t : Nat) : Int))), (16, (.bool false)), (15, (.bool false))] (by kernel_rfl) ?_
    refine wpF_step (op_callAt (d := (some 19)) (by kernel_rfl) (c_RecordsRecord (Rec.mk t Non.zero Dig.zero (by omega)) _) ?_)
    rintro _ w3 ⟨rfl, hEw3⟩
    have hzw3 := hEw3.size
    refine wpF_run 6 [(25, (.agg (recC (Rec.mk t (Non.mk 1 0 (by decide) (by decide)) Dig.zero (by omega))).toArray)), (24, (.agg (nonC (Non.mk 1 0 (by decide) (by decide))).toArray)), (23, (.int .u8 ((t : Nat) : Int))), (22, (.bool false)), (21, (.bool false)), (20, (.bool false))] (by kernel_rfl) ?_
    refine wpF_step (op_callAt (d := (some 26)) (by kernel_rfl) (c_RecordsRecord (Rec.mk t (Non.mk 1 0 (by decide) (by decide)) Dig.zero (by omega)) _) ?_)
    rintro _ w4 ⟨rfl, hEw4⟩
    have hzw4 := hEw4.size
    refine wpF_run 6 [(32, (.agg (recC (Rec.mk t (Non.mk 0 1 (by decide) (by decide)) Dig.zero (by omega))).toArray)), (31, (.agg (nonC (Non.mk 0 1 (by decide) (by decide))).toArray)), (30, (.int .u8 ((t : Nat) : Int))), (29, (.bool false)), (28, (.bool false)), (27, (.bool false))] (by kernel_rfl) ?_
    refine wpF_step (op_callAt (d := (some 33)) (by kernel_rfl) (c_RecordsRecord (Rec.mk t (Non.mk 0 1 (by decide) (by decide)) Dig.zero (by omega)) _) ?_)
    rintro _ w5 ⟨rfl, hEw5⟩
    have hzw5 := hEw5.size
    refine wpF_run 6 [(39, (.agg (recC (Rec.mk t Non.zero (Dig.mk (List.replicate 31 0 ++ [1]) rfl) (by omega))).toArray)), (38, (.agg (digC (Dig.mk (List.replicate 31 0 ++ [1]) rfl)).toArray)), (37, (.int .u8 ((t : Nat) : Int))), (36, (.bool false)), (35, (.bool false)), (34, (.bool false))] (by kernel_rfl) ?_
    refine wpF_step (op_callAt (d := (some 40)) (by kernel_rfl) (c_RecordsRecord (Rec.mk t Non.zero (Dig.mk (List.replicate 31 0 ++ [1]) rfl) (by omega)) _) ?_)
    rintro _ w6 ⟨rfl, hEw6⟩
    have hzw6 := hEw6.size
    refine wpF_run 5 [(45, (.agg (entC (Ent.mk t Dig.zero (by omega))).toArray)), (44, (.int .u8 ((t : Nat) : Int))), (43, (.bool false)), (42, (.bool false)), (41, (.bool false))] (by kernel_rfl) ?_
    refine wpF_step (op_callAt (d := (some 46)) (by kernel_rfl) (c_RecordsEntry (Ent.mk t Dig.zero (by omega)) _) ?_)
    rintro _ w7 ⟨rfl, hEw7⟩
    have hzw7 := hEw7.size
    refine wpF_run 6 [(52, (.agg (entC (Ent.mk t (Dig.mk (List.replicate 31 0 ++ [1]) rfl) (by omega))).toArray)), (51, (.agg (digC (Dig.mk (List.replicate 31 0 ++ [1]) rfl)).toArray)), (50, (.int .u8 ((t : Nat) : Int))), (49, (.bool false)), (48, (.bool false)), (47, (.bool false))] (by kernel_rfl) ?_
    refine wpF_step (op_callAt (d := (some 53)) (by kernel_rfl) (c_RecordsEntry (Ent.mk t (Dig.mk (List.replicate 31 0 ++ [1]) rfl) (by omega)) _) ?_)
    rintro _ w8 ⟨rfl, hEw8⟩
    have hzw8 := hEw8.size
    refine wpF_run 2 [(55, (.bool false)), (54, (.bool false))] (by kernel_rfl) ?_
    refine wpF_end (by kernel_rfl) ?_
    refine then_code ?_
    refine wpC_false (by kernel_rfl) ?_
    refine wpC_skip ?_
    refine inBlock_normal ?_
    refine then_code ?_
    refine wpC_region ?_
    refine wpF_run 1 [(7, (.int .i64 ((t : Nat) : Int)))] (by kernel_rfl) ?_
    refine wpF_step (op_eqv (d := (some 8)) (.int .i64 (IntKind.i64.wrap (((t : Nat) : Int) + ((1 : Nat) : Int)))) (.int .i64 ((t + 1 : Nat) : Int)) (by kernel_rfl) (congrArg (Value.int .i64) (wrapS (by omega) (by omega) (by omega))) ?_)
    refine wpF_run 1 [(1, (.int .i64 ((t + 1 : Nat) : Int)))] (by kernel_rfl) ?_
    refine wpF_end (by kernel_rfl) ?_
    refine then_normal ?_
    refine endR_mk (t + 1) (by kernel_rfl) ?_ ?_
    · exact ⟨by omega, (((((((hEl.trans hEw2).trans hEw3).trans hEw4).trans hEw5).trans hEw6).trans hEw7).trans hEw8)⟩
    · first | omega | (dsimp only; omega)
  · replace hc6 : ¬ (t < 256) := by have := of_d_f hc6; omega
    refine wpF_end (by kernel_rfl) ?_
    refine then_code ?_
    refine wpC_false (by kernel_rfl) ?_
    refine wpC_exit ?_
    refine then_exit ?_
    refine then_exit ?_
    refine inBlock_exit ?_
    refine then_code ?_
    refine wpC_seq ?_
    refine wpC_seq ?_
    refine wpC_region ?_
    refine wpF_run 1 [(3, (.int .i64 ((0 : Nat) : Int)))] (by kernel_rfl) ?_
    refine wpF_end (by kernel_rfl) ?_
    refine then_code ?_
    refine wpC_block ?_
    refine wpC_loop (X := Nat) (fun i => [(3, (.int .i64 ((i : Nat) : Int)))]) [0, 4, 56, 57, 58, 59, 60, 61, 62, 63, 64, 65, 66, 67, 68, 69, 70, 71, 72, 73, 74, 75, 76, 77, 78] (fun i w9 => i ≤ 61 ∧ Ext w w9) (fun i => 61 - i) 0 (by kernel_rfl) ⟨by omega, hEl⟩ ?_
    rintro i dw9 w9 ⟨ht, hEl⟩
    have hzl := hEl.size
    refine wpC_seq ?_
    refine wpC_seq ?_
    refine wpC_region ?_
    refine wpF_run 1 [(56, (.int .i64 ((i : Nat) : Int)))] (by kernel_rfl) ?_
    refine wpF_step (op_split (d := (some 57)) (decide (((i : Nat) : Int) < ((61 : Nat) : Int))) (by kernel_rfl) (fun hc57 => ?_) (fun hc57 => ?_))
    · replace hc57 : i < 61 := by have := of_d_t hc57; omega
      refine wpF_end (by kernel_rfl) ?_
      refine then_code ?_
      refine wpC_true (by kernel_rfl) ?_
      refine wpC_skip ?_
      refine then_code ?_
      refine wpC_seq ?_
      refine wpC_block ?_
      refine wpC_seq ?_
      refine wpC_region ?_
      refine wpF_run 1 [(60, (.int .i64 ((i : Nat) : Int)))] (by kernel_rfl) ?_
      refine wpF_step (op_make (d := (some 61)) 23 5 1 1 i .i64 .i64 (.int .u8 ((0 : Nat) : Int)) (by kernel_rfl) (by kernel_rfl) (by kernel_rfl) (by omega) (by omega) ?_)
      rw [show (Value.cells (.int .u8 ((0 : Nat) : Int))) = #[(.int .u8 ((0 : Nat) : Int))] from rfl, Nat.mul_one, madeCells_one]
      intro w10 hBw10 hEw10
      have hzw10 := hEw10.size; have hlw10 := hBw10.lt
      have hSw10 : Bs w9.heap.size (w9.heap.size + 1) w10 (some ⟨w9.heap.size, 0, none⟩) i i (List.replicate i 0) := Bs.of_blk hBw10 (u8s_zero _) (by simp) (Nat.le_refl _) (by simp only [maxLen]; omega) (Nat.le_refl _) (Nat.lt_succ_self _)
      refine wpF_run 1 [(4, (.slice (some ⟨w9.heap.size, 0, none⟩) i i))] (by kernel_rfl) ?_
      refine wpF_end (by kernel_rfl) ?_
      refine then_code ?_
      refine wpC_seq ?_
      refine wpC_seq ?_
      refine wpC_region ?_
      refine wpF_run 1 [(62, (.slice (some ⟨w9.heap.size, 0, none⟩) i i))] (by kernel_rfl) ?_
      refine wpF_step (op_callAt (d := (some 63)) (by kernel_rfl) (c_RecordsGet _ hSw10) ?_)
      rintro _ w11 ⟨rfl, hEw11⟩
      have hzw11 := hEw11.size
      refine wpF_run 1 [(64, (.bool false))] (by kernel_rfl) ?_
      refine wpF_end (by kernel_rfl) ?_
      refine then_code ?_
      refine wpC_false (by kernel_rfl) ?_
      refine wpC_skip ?_
      refine then_code ?_
      refine wpC_seq ?_
      refine wpC_region ?_
      refine wpF_run 1 [(65, (.int .i64 ((i : Nat) : Int)))] (by kernel_rfl) ?_
      refine wpF_step (op_split (d := (some 66)) (decide (((i : Nat) : Int) > ((0 : Nat) : Int))) (by kernel_rfl) (fun hc66 => ?_) (fun hc66 => ?_))
      · replace hc66 : i > 0 := by have := of_d_t hc66; omega
        refine wpF_end (by kernel_rfl) ?_
        refine then_code ?_
        refine wpC_true (by kernel_rfl) ?_
        refine wpC_seq ?_
        refine wpC_region ?_
        refine wpF_run 1 [(67, (.slice (some ⟨w9.heap.size, 0, none⟩) i i))] (by kernel_rfl) ?_
        refine wpF_step (op_v (d := (some 68)) (s := Instr.indexAt 23 (.slice (some ⟨w9.heap.size, 0, none⟩) i i) (.int .i64 ((0 : Nat) : Int))) (v := (.pointer (some ⟨w9.heap.size, 0 + 0 * 1, none⟩))) (by kernel_rfl) (rn_ixs (E := 5) (sz := 1) (by kernel_rfl) (by kernel_rfl) (by omega)) ?_)
        refine wpF_step (op_store (d := none) 5 w9.heap.size (0 + 0 * 1) 5 (.int .u8 ((2 : Nat) : Int)) (List.replicate i (.int .u8 ((0 : Nat) : Int))) ([(.int .u8 ((2 : Nat) : Int))]) (by kernel_rfl) (hBw10.ext hEw11) rfl (by kernel_rfl) (by simp; omega) (by simp [Value.oneCell']) ?_)
        intro w12 hBw12 hCw12
        have hzw12 := hCw12.size
        rw [show setFrom (List.replicate i (.int .u8 ((0 : Nat) : Int))) (0 + 0 * 1) ([(.int .u8 ((2 : Nat) : Int))]) = u8s ((List.replicate i (0 : UInt8)).set (0 + 0 * 1) (UInt8.ofNat 2)) from (congrArg (fun z => setFrom z (0 + 0 * 1) [Value.int .u8 ((2 : Nat) : Int)]) (u8s_zero i)).trans (u8s_set _ _ 2 (by decide))] at hBw12
        have hSw12 : Bs w9.heap.size (w9.heap.size + 1) w12 (some ⟨w9.heap.size, 0, none⟩) i i ((List.replicate i (0 : UInt8)).set (0 + 0 * 1) (UInt8.ofNat 2)) := Bs.of_blk hBw12 rfl (by simp) (Nat.le_refl _) (by simp only [maxLen]; omega) (Nat.le_refl _) (Nat.lt_succ_self _)
        refine wpF_end (by kernel_rfl) ?_
        refine then_code ?_
        refine wpC_seq ?_
        refine wpC_region ?_
        refine wpF_run 2 [(70, (.int .i64 ((i : Nat) : Int))), (69, (.slice (some ⟨w9.heap.size, 0, none⟩) i i))] (by kernel_rfl) ?_
        refine wpF_step (op_eqv (d := (some 71)) (.int .i64 (IntKind.i64.wrap (((i : Nat) : Int) - ((1 : Nat) : Int)))) (.int .i64 ((i - 1 : Nat) : Int)) (by kernel_rfl) (congrArg (Value.int .i64) (wrapS (by omega) (by omega) (by omega))) ?_)
        refine wpF_step (op_v (d := (some 72)) (s := Instr.indexAt 23 (.slice (some ⟨w9.heap.size, 0, none⟩) i i) (.int .i64 ((i - 1 : Nat) : Int))) (v := (.pointer (some ⟨w9.heap.size, 0 + (i - 1) * 1, none⟩))) (by kernel_rfl) (rn_ixs (E := 5) (sz := 1) (by kernel_rfl) (by kernel_rfl) (by omega)) ?_)
        refine wpF_step (op_v (d := (some 73)) (s := Instr.loadAt 5 (.pointer (some ⟨w9.heap.size, 0 + (i - 1) * 1, none⟩))) (v := (.int .u8 ((byt ((List.replicate i (0 : UInt8)).set (0 + 0 * 1) (UInt8.ofNat 2)) (i - 1) : Nat) : Int))) (by kernel_rfl) (rn_ld (by kernel_rfl) (hSw12.cell1 (by omega))) ?_)
        refine wpF_step (op_eqv (d := (some 74)) (.int .u8 (IntKind.u8.wrap (((byt ((List.replicate i (0 : UInt8)).set (0 + 0 * 1) (UInt8.ofNat 2)) (i - 1) : Nat) : Int) + ((1 : Nat) : Int)))) (.int .u8 (((byt ((List.replicate i (0 : UInt8)).set (0 + 0 * 1) (UInt8.ofNat 2)) (i - 1) + 1) % 2 ^ 8 : Nat) : Int)) (by kernel_rfl) (congrArg (Value.int .u8) (wrapU rfl (by simp))) ?_)
        refine wpF_step (op_v (d := (some 75)) (s := Instr.indexAt 23 (.slice (some ⟨w9.heap.size, 0, none⟩) i i) (.int .i64 ((i - 1 : Nat) : Int))) (v := (.pointer (some ⟨w9.heap.size, 0 + (i - 1) * 1, none⟩))) (by kernel_rfl) (rn_ixs (E := 5) (sz := 1) (by kernel_rfl) (by kernel_rfl) (by omega)) ?_)
        refine wpF_step (op_store (d := none) 5 w9.heap.size (0 + (i - 1) * 1) 5 (.int .u8 (((byt ((List.replicate i (0 : UInt8)).set (0 + 0 * 1) (UInt8.ofNat 2)) (i - 1) + 1) % 2 ^ 8 : Nat) : Int)) (u8s ((List.replicate i (0 : UInt8)).set (0 + 0 * 1) (UInt8.ofNat 2))) ([(.int .u8 (((byt ((List.replicate i (0 : UInt8)).set (0 + 0 * 1) (UInt8.ofNat 2)) (i - 1) + 1) % 2 ^ 8 : Nat) : Int))]) (by kernel_rfl) hBw12 rfl (by kernel_rfl) (by simp; omega) (by simp [Value.oneCell']) ?_)
        intro w13 hBw13 hCw13
        have hzw13 := hCw13.size
        rw [show setFrom (u8s ((List.replicate i (0 : UInt8)).set (0 + 0 * 1) (UInt8.ofNat 2))) (0 + (i - 1) * 1) ([(.int .u8 (((byt ((List.replicate i (0 : UInt8)).set (0 + 0 * 1) (UInt8.ofNat 2)) (i - 1) + 1) % 2 ^ 8 : Nat) : Int))]) = u8s (((List.replicate i (0 : UInt8)).set (0 + 0 * 1) (UInt8.ofNat 2)).set (0 + (i - 1) * 1) (UInt8.ofNat ((byt ((List.replicate i (0 : UInt8)).set (0 + 0 * 1) (UInt8.ofNat 2)) (i - 1) + 1) % 2 ^ 8))) from u8s_set _ _ _ (Nat.mod_lt _ (by decide))] at hBw13
        have hSw13 : Bs w9.heap.size (w9.heap.size + 1) w13 (some ⟨w9.heap.size, 0, none⟩) i i (((List.replicate i (0 : UInt8)).set (0 + 0 * 1) (UInt8.ofNat 2)).set (0 + (i - 1) * 1) (UInt8.ofNat ((byt ((List.replicate i (0 : UInt8)).set (0 + 0 * 1) (UInt8.ofNat 2)) (i - 1) + 1) % 2 ^ 8))) := Bs.of_blk hBw13 rfl (by simp) (Nat.le_refl _) (by simp only [maxLen]; omega) (Nat.le_refl _) (Nat.lt_succ_self _)
        refine wpF_end (by kernel_rfl) ?_
        refine then_code ?_
        refine wpC_seq ?_
        refine wpC_region ?_
        refine wpF_run 1 [(76, (.slice (some ⟨w9.heap.size, 0, none⟩) i i))] (by kernel_rfl) ?_
        refine wpF_step (op_callAt (d := (some 77)) (by kernel_rfl) (c_RecordsGet _ hSw13) ?_)
        rintro _ w14 ⟨rfl, hEw14⟩
        have hzw14 := hEw14.size
        refine wpF_run 1 [(78, (.bool false))] (by kernel_rfl) ?_
        refine wpF_end (by kernel_rfl) ?_
        refine then_code ?_
        refine wpC_false (by kernel_rfl) ?_
        refine wpC_skip ?_
        refine inBlock_normal ?_
        refine then_code ?_
        refine wpC_region ?_
        refine wpF_run 1 [(58, (.int .i64 ((i : Nat) : Int)))] (by kernel_rfl) ?_
        refine wpF_step (op_eqv (d := (some 59)) (.int .i64 (IntKind.i64.wrap (((i : Nat) : Int) + ((1 : Nat) : Int)))) (.int .i64 ((i + 1 : Nat) : Int)) (by kernel_rfl) (congrArg (Value.int .i64) (wrapS (by omega) (by omega) (by omega))) ?_)
        refine wpF_run 1 [(3, (.int .i64 ((i + 1 : Nat) : Int)))] (by kernel_rfl) ?_
        refine wpF_end (by kernel_rfl) ?_
        refine then_normal ?_
        refine endR_mk (i + 1) (by kernel_rfl) ?_ ?_
        · exact ⟨by omega, ((Ext.own (Ext.own ((hEl.trans hEw10).trans hEw11) hCw12 (by omega)) hCw13 (by omega)).trans hEw14)⟩
        · first | omega | (dsimp only; omega)
      · replace hc66 : ¬ (i > 0) := by have := of_d_f hc66; omega
        refine wpF_end (by kernel_rfl) ?_
        refine then_code ?_
        refine wpC_false (by kernel_rfl) ?_
        refine wpC_skip ?_
        refine inBlock_normal ?_
        refine then_code ?_
        refine wpC_region ?_
        refine wpF_run 1 [(58, (.int .i64 ((i : Nat) : Int)))] (by kernel_rfl) ?_
        refine wpF_step (op_eqv (d := (some 59)) (.int .i64 (IntKind.i64.wrap (((i : Nat) : Int) + ((1 : Nat) : Int)))) (.int .i64 ((i + 1 : Nat) : Int)) (by kernel_rfl) (congrArg (Value.int .i64) (wrapS (by omega) (by omega) (by omega))) ?_)
        refine wpF_run 1 [(3, (.int .i64 ((i + 1 : Nat) : Int)))] (by kernel_rfl) ?_
        refine wpF_end (by kernel_rfl) ?_
        refine then_normal ?_
        refine endR_mk (i + 1) (by kernel_rfl) ?_ ?_
        · exact ⟨by omega, ((hEl.trans hEw10).trans hEw11)⟩
        · first | omega | (dsimp only; omega)
    · replace hc57 : ¬ (i < 61) := by have := of_d_f hc57; omega
      refine wpF_end (by kernel_rfl) ?_
      refine then_code ?_
      refine wpC_false (by kernel_rfl) ?_
      refine wpC_exit ?_
      refine then_exit ?_
      refine then_exit ?_
      refine inBlock_exit ?_
      refine then_code ?_
      refine wpC_seq ?_
      refine wpC_region ?_
      refine wpF_run 3 [(81, (.agg (celC (Cel.mk (Dig.mk (1 :: List.replicate 31 0) rfl) 18446744073709551615 9223372036854775808 (by decide) (by decide))).toArray)), (80, (.agg (digC (Dig.mk (1 :: List.replicate 31 0) rfl)).toArray)), (79, (.bool true))] (by kernel_rfl) ?_
      refine wpF_step (op_callAt (d := (some 82)) (by kernel_rfl) (c_RecordsCell (Cel.mk (Dig.mk (1 :: List.replicate 31 0) rfl) 18446744073709551615 9223372036854775808 (by decide) (by decide)) _) ?_)
      rintro _ w15 ⟨rfl, hEw15⟩
      have hzw15 := hEw15.size
      refine wpF_run 2 [(84, (.bool true)), (83, (.bool true))] (by kernel_rfl) ?_
      refine wpF_step (op_callAt (d := (some 85)) (by kernel_rfl) (c_lives10 _) ?_)
      rintro _ w16 ⟨rfl, hEw16⟩
      have hzw16 := hEw16.size
      refine wpF_run 2 [(0, (.bool true)), (86, (.bool true))] (by kernel_rfl) ?_
      refine wpF_end (by kernel_rfl) ?_
      refine then_code ?_
      refine wpC_ret ?_
      refine body_ret1 (by kernel_rfl) (show resVal Try.prog 87 _ _ (.tmp 0) (.bool true) by (show _ = _; kernel_rfl)) ?_
      exact ⟨rfl, ((hEl.trans hEw15).trans hEw16)⟩

end Go.Proofs.Ytigeaknjhnichaa
