/- CsW1: what each function does, by its own code. No condition beyond those of each statement. -/
import Derived.Test.YtigeaknjhnichaaProg
import Derived.Test.YtigeaknjhnichaaCsWords0
namespace Go.Proofs.Ytigeaknjhnichaa
open Go Go.RowKit Go.Cs
set_option maxRecDepth 100000
set_option linter.all false
set_option linter.unusedVariables false

theorem c_put (v : Nat) (sz : Nat)  (w : World) (hp0 : sz ≤ 8) :
    Calls Try.prog 48 #[(.int .u64 ((v : Nat) : Int)), (.int .i64 ((sz : Nat) : Int))] w (Ret fun r w' => ∃ a0, r = (.slice a0 sz sz) ∧ Bs w.heap.size w'.heap.size w' a0 sz sz (be v sz) ∧ Ext w w') := by
  refine calls_of (n := 26) (σ := [(0, (.int .u64 ((v : Nat) : Int))), (1, (.int .i64 ((sz : Nat) : Int)))]) Try.func48 rfl (by kernel_rfl) ?_
  refine wpC_seq ?_
  refine wpC_region ?_
  refine wpF_run 1 [(4, (.slice none 0 0))] (by kernel_rfl) ?_
  refine wpF_end (by kernel_rfl) ?_
  refine then_code ?_
  refine wpC_seq ?_
  refine wpC_region ?_
  refine wpF_run 1 [(7, (.int .i64 ((sz : Nat) : Int)))] (by kernel_rfl) ?_
  refine wpF_step (op_make (d := (some 8)) 23 5 1 1 sz .i64 .i64 (.int .u8 ((0 : Nat) : Int)) (by kernel_rfl) (by kernel_rfl) (by kernel_rfl) (by omega) (by omega) ?_)
  rw [show (Value.cells (.int .u8 ((0 : Nat) : Int))) = #[(.int .u8 ((0 : Nat) : Int))] from rfl, Nat.mul_one, madeCells_one]
  intro w1 hBw1 hEw1
  have hzw1 := hEw1.size; have hlw1 := hBw1.lt
  have hSw1 : Bs w.heap.size (w.heap.size + 1) w1 (some ⟨w.heap.size, 0, none⟩) sz sz (List.replicate sz 0) := Bs.of_blk hBw1 (u8s_zero _) (by simp) (Nat.le_refl _) (by simp only [maxLen]; omega) (Nat.le_refl _) (Nat.lt_succ_self _)
  refine wpF_run 1 [(5, (.slice (some ⟨w.heap.size, 0, none⟩) sz sz))] (by kernel_rfl) ?_
  refine wpF_end (by kernel_rfl) ?_
  refine then_code ?_
  refine wpC_seq ?_
  refine wpC_seq ?_
  refine wpC_region ?_
  refine wpF_run 2 [(10, (.int .i64 ((0 : Nat) : Int))), (9, (.int .i64 ((sz : Nat) : Int)))] (by kernel_rfl) ?_
  refine wpF_end (by kernel_rfl) ?_
  refine then_code ?_
  refine wpC_block ?_
  refine wpC_loop (X := Nat) (fun i => [(10, (.int .i64 ((i : Nat) : Int)))]) [6, 11, 12, 13, 14, 15, 16, 17, 18, 19, 20, 21, 22, 23, 24] (fun i w2 => i ≤ sz ∧ Blk w2 w.heap.size (u8s (pick sz (fun j => decide (sz - 1 - j < i)) fun j => UInt8.ofNat (v / 256 ^ (sz - 1 - j)))) 5 ∧ Ext w w2) (fun i => sz - i) 0 (by kernel_rfl) ⟨by omega, (by rw [pick_none _ _ _ (by intro j hj; simp)]; rw [← u8s_zero]; exact hBw1), hEw1⟩ ?_
  rintro i dw2 w2 ⟨hi, hBl, hEl⟩
  have hzl := hEl.size; have hll := hBl.lt
  refine wpC_seq ?_
  refine wpC_region ?_
  refine wpF_step (op_split (d := (some 11)) (decide (((i : Nat) : Int) < ((sz : Nat) : Int))) (by kernel_rfl) (fun hc11 => ?_) (fun hc11 => ?_))
  · replace hc11 : i < sz := by have := of_d_t hc11; omega
    refine wpF_end (by kernel_rfl) ?_
    refine then_code ?_
    refine wpC_seq ?_
    refine wpC_true (by kernel_rfl) ?_
    refine wpC_skip ?_
    refine then_code ?_
    refine wpC_seq ?_
    refine wpC_block ?_
    refine wpC_seq ?_
    refine wpC_region ?_
    refine wpF_run 2 [(6, (.int .i64 ((i : Nat) : Int))), (12, (.int .i64 ((i : Nat) : Int)))] (by kernel_rfl) ?_
    refine wpF_end (by kernel_rfl) ?_
    refine then_code ?_
    refine wpC_region ?_
    refine wpF_run 2 [(14, (.int .i64 ((sz : Nat) : Int))), (13, (.slice (some ⟨w.heap.size, 0, none⟩) sz sz))] (by kernel_rfl) ?_
    refine wpF_step (op_eqv (d := (some 15)) (.int .i64 (IntKind.i64.wrap (((sz : Nat) : Int) - ((1 : Nat) : Int)))) (.int .i64 ((sz - 1 : Nat) : Int)) (by kernel_rfl) (congrArg (Value.int .i64) (wrapS (by omega) (by omega) (by omega))) ?_)
    refine wpF_run 1 [(16, (.int .i64 ((i : Nat) : Int)))] (by kernel_rfl) ?_
    refine wpF_step (op_eqv (d := (some 17)) (.int .i64 (IntKind.i64.wrap (((sz - 1 : Nat) : Int) - ((i : Nat) : Int)))) (.int .i64 ((sz - 1 - i : Nat) : Int)) (by kernel_rfl) (congrArg (Value.int .i64) (wrapS (by omega) (by omega) (by omega))) ?_)
    refine wpF_run 2 [(19, (.int .i64 ((i : Nat) : Int))), (18, (.int .u64 ((v : Nat) : Int)))] (by kernel_rfl) ?_
    refine wpF_step (op_eqv (d := (some 20)) (.int .i64 (IntKind.i64.wrap (((8 : Nat) : Int) * ((i : Nat) : Int)))) (.int .i64 ((8 * i : Nat) : Int)) (by kernel_rfl) (congrArg (Value.int .i64) (wrapS (by omega) (by omega) (by omega))) ?_)
    refine wpF_step (op_v (d := (some 21)) (s := (do eqGuard .shr 22 (.tmp 18) (.tmp 20) (.int .u64 ((v : Nat) : Int)) (.int .i64 ((8 * i : Nat) : Int)); binOp .shr 22 (.int .u64 ((v : Nat) : Int)) (.int .i64 ((8 * i : Nat) : Int)))) (v := (.int .u64 ((v / 2 ^ (8 * i) : Nat) : Int))) (by kernel_rfl) (run_shr (by show _ ≤ 64; omega)) ?_)
    refine wpF_step (op_eqv (d := (some 22)) (.int .u8 (IntKind.u8.wrap ((v / 2 ^ (8 * i) : Nat) : Int))) (.int .u8 (((v / 2 ^ (8 * i)) % 2 ^ 8 : Nat) : Int)) (by kernel_rfl) (congrArg (Value.int .u8) (wrapU rfl rfl)) ?_)
    refine wpF_step (op_v (d := (some 23)) (s := Instr.indexAt 23 (.slice (some ⟨w.heap.size, 0, none⟩) sz sz) (.int .i64 ((sz - 1 - i : Nat) : Int))) (v := (.pointer (some ⟨w.heap.size, 0 + (sz - 1 - i) * 1, none⟩))) (by kernel_rfl) (rn_ixs (E := 5) (sz := 1) (by kernel_rfl) (by kernel_rfl) (by omega)) ?_)
    refine wpF_step (op_store (d := none) 5 w.heap.size (0 + (sz - 1 - i) * 1) 5 (.int .u8 (((v / 2 ^ (8 * i)) % 2 ^ 8 : Nat) : Int)) (u8s (pick sz (fun j => decide (sz - 1 - j < i)) fun j => UInt8.ofNat (v / 256 ^ (sz - 1 - j)))) ([(.int .u8 (((v / 2 ^ (8 * i)) % 2 ^ 8 : Nat) : Int))]) (by kernel_rfl) hBl rfl (by kernel_rfl) (by simp; omega) (by simp [Value.oneCell']) ?_)
    intro w3 hBw3 hCw3
    have hzw3 := hCw3.size
    rw [show setFrom (u8s (pick sz (fun j => decide (sz - 1 - j < i)) fun j => UInt8.ofNat (v / 256 ^ (sz - 1 - j)))) (0 + (sz - 1 - i) * 1) ([(.int .u8 (((v / 2 ^ (8 * i)) % 2 ^ 8 : Nat) : Int))]) = u8s (pick sz (fun j => decide (sz - 1 - j < i + 1)) fun j => UInt8.ofNat (v / 256 ^ (sz - 1 - j))) from by have hx := pick_set sz (fun j => decide (sz - 1 - j < i)) (fun j => decide (sz - 1 - j < i + 1)) (fun j => UInt8.ofNat (v / 256 ^ (sz - 1 - j))) (sz - 1 - i) (UInt8.ofNat (v / 2 ^ (8 * i))) (by omega) (by first | (rw [two_pow_8]; congr 3; omega) | (rw [u8_mod, show sz - 1 - (sz - 1 - i) = i from by omega])) (by intro j hj; by_cases h1 : sz - 1 - j < i + 1 <;> by_cases h2 : sz - 1 - j < i <;> by_cases h3 : j = sz - 1 - i <;> simp [h1, h2, h3] <;> omega); simpa [setFrom, UInt8.toNat_ofNat'] using hx] at hBw3
    refine wpF_end (by kernel_rfl) ?_
    refine inBlock_normal ?_
    refine then_code ?_
    refine wpC_region ?_
    refine wpF_step (op_eqv (d := (some 24)) (.int .i64 (IntKind.i64.wrap (((i : Nat) : Int) + ((1 : Nat) : Int)))) (.int .i64 ((i + 1 : Nat) : Int)) (by kernel_rfl) (congrArg (Value.int .i64) (wrapS (by omega) (by omega) (by omega))) ?_)
    refine wpF_run 1 [(10, (.int .i64 ((i + 1 : Nat) : Int)))] (by kernel_rfl) ?_
    refine wpF_end (by kernel_rfl) ?_
    refine then_normal ?_
    refine endR_mk (i + 1) (by kernel_rfl) ?_ ?_
    · exact ⟨by omega, hBw3, (Ext.own hEl hCw3 (by omega))⟩
    · first | omega | (dsimp only; omega)
  · replace hc11 : ¬ (i < sz) := by have := of_d_f hc11; omega
    refine wpF_end (by kernel_rfl) ?_
    refine then_code ?_
    refine wpC_seq ?_
    refine wpC_false (by kernel_rfl) ?_
    refine wpC_exit ?_
    refine then_exit ?_
    refine then_exit ?_
    refine inBlock_exit ?_
    refine then_code ?_
    refine wpC_seq ?_
    refine wpC_region ?_
    refine wpF_run 2 [(4, (.slice (some ⟨w.heap.size, 0, none⟩) sz sz)), (25, (.slice (some ⟨w.heap.size, 0, none⟩) sz sz))] (by kernel_rfl) ?_
    refine wpF_end (by kernel_rfl) ?_
    refine then_code ?_
    refine wpC_ret ?_
    refine body_ret1 (by kernel_rfl) (show resVal Try.prog 26 _ _ (.tmp 4) (.slice (some ⟨w.heap.size, 0, none⟩) sz sz) by (show _ = _; kernel_rfl)) ?_
    refine ⟨_, rfl, Bs.of_blk hBl ?_ (by simp) (by omega) (by simp only [maxLen]; omega) (by omega) (by omega), hEl⟩
    rw [pick_all _ _ _ (by intro j hj; simp; omega)]; rfl

theorem c_rPut (v : Nat) (sz : Nat)  (w : World) (hp0 : sz ≤ 8) (hp1 : v < 2 ^ 64) :
    Calls Try.prog 50 #[(.int .u64 ((v : Nat) : Int)), (.int .i64 ((sz : Nat) : Int))] w (Ret fun r w' => ∃ a0, r = (.slice (some ⟨a0, 0, none⟩) sz sz) ∧ w.heap.size ≤ a0 ∧ Blk w' a0 (u8s (be v sz)) 5 ∧ sz = (be v sz).length ∧ sz ≤ 1099511627776 ∧ Ext w w') := by
  refine calls_of (n := 24) (σ := [(0, (.int .u64 ((v : Nat) : Int))), (1, (.int .i64 ((sz : Nat) : Int)))]) Try.func50 rfl (by kernel_rfl) ?_
  refine wpC_seq ?_
  refine wpC_region ?_
  refine wpF_run 1 [(4, (.slice none 0 0))] (by kernel_rfl) ?_
  refine wpF_end (by kernel_rfl) ?_
  refine then_code ?_
  refine wpC_seq ?_
  refine wpC_region ?_
  refine wpF_run 1 [(7, (.int .i64 ((sz : Nat) : Int)))] (by kernel_rfl) ?_
  refine wpF_step (op_make (d := (some 8)) 23 5 1 1 sz .i64 .i64 (.int .u8 ((0 : Nat) : Int)) (by kernel_rfl) (by kernel_rfl) (by kernel_rfl) (by omega) (by omega) ?_)
  rw [show (Value.cells (.int .u8 ((0 : Nat) : Int))) = #[(.int .u8 ((0 : Nat) : Int))] from rfl, Nat.mul_one, madeCells_one]
  intro w1 hBw1 hEw1
  have hzw1 := hEw1.size; have hlw1 := hBw1.lt
  have hSw1 : Bs w.heap.size (w.heap.size + 1) w1 (some ⟨w.heap.size, 0, none⟩) sz sz (List.replicate sz 0) := Bs.of_blk hBw1 (u8s_zero _) (by simp) (Nat.le_refl _) (by simp only [maxLen]; omega) (Nat.le_refl _) (Nat.lt_succ_self _)
  refine wpF_run 1 [(5, (.slice (some ⟨w.heap.size, 0, none⟩) sz sz))] (by kernel_rfl) ?_
  refine wpF_end (by kernel_rfl) ?_
  refine then_code ?_
  refine wpC_seq ?_
  refine wpC_seq ?_
  refine wpC_region ?_
  refine wpF_run 1 [(9, (.int .i64 ((sz : Nat) : Int)))] (by kernel_rfl) ?_
  refine wpF_step (op_eqv (d := (some 10)) (.int .i64 (IntKind.i64.wrap (((sz : Nat) : Int) - ((1 : Nat) : Int)))) (.int .i64 ((sz : Int) - 1)) (by kernel_rfl) (congrArg (Value.int .i64) (wrapS rfl (by omega) (by omega))) ?_)
  refine wpF_run 1 [(6, (.int .i64 ((sz : Int) - 1)))] (by kernel_rfl) ?_
  refine wpF_end (by kernel_rfl) ?_
  refine then_code ?_
  refine wpC_block ?_
  refine wpC_loop (X := Nat) (fun i => [(0, (.int .u64 ((v / 256 ^ i : Nat) : Int))), (6, (.int .i64 ((sz : Int) - 1 - (i : Int))))]) [11, 12, 13, 14, 15, 16, 17, 18, 19, 20, 21, 22] (fun i w2 => i ≤ sz ∧ Blk w2 w.heap.size (u8s (pick sz (fun j => decide (sz - 1 - j < i)) fun j => UInt8.ofNat (v / 256 ^ (sz - 1 - j)))) 5 ∧ Ext w w2) (fun i => sz - i) 0 (by rw [Nat.pow_zero, Nat.div_one, show (sz : Int) - 1 - ((0 : Nat) : Int) = (sz : Int) - 1 from by omega]; kernel_rfl) ⟨by omega, (by rw [pick_none _ _ _ (by intro j hj; simp)]; rw [← u8s_zero]; exact hBw1), hEw1⟩ ?_
  rintro i dw2 w2 ⟨hi, hBl, hEl⟩
  have hzl := hEl.size; have hll := hBl.lt
  refine wpC_seq ?_
  refine wpC_seq ?_
  refine wpC_region ?_
  refine wpF_run 1 [(11, (.int .i64 ((sz : Int) - 1 - (i : Int))))] (by kernel_rfl) ?_
  refine wpF_step (op_split (d := some 12) (decide ((sz : Int) - 1 - (i : Int) ≥ ((0 : Nat) : Int))) (by kernel_rfl) (fun hc => ?_) (fun hc => ?_))
  · replace hc : i < sz := by have := of_d_t hc; omega
    have hidx : (sz : Int) - 1 - (i : Int) = ((sz - 1 - i : Nat) : Int) := by omega
    refine wpF_end (by kernel_rfl) ?_
    refine then_code ?_
    refine wpC_true (by kernel_rfl) ?_
    refine wpC_skip ?_
    refine then_code ?_
    refine wpC_seq ?_
    refine wpC_block ?_
    refine wpC_seq ?_
    refine wpC_region ?_
    refine wpF_run 3 [(17, (.int .u64 ((v / 256 ^ i : Nat) : Int))), (16, (.int .i64 ((sz : Int) - 1 - (i : Int)))), (15, (.slice (some ⟨w.heap.size, 0, none⟩) sz sz))] (by kernel_rfl) ?_
    refine wpF_step (op_eqv (d := (some 18)) (.int .u64 (((v / 256 ^ i : Nat) : Int).tmod ((256 : Nat) : Int))) (.int .u64 (((v / 256 ^ i) % 256 : Nat) : Int)) (by kernel_rfl) (congrArg (Value.int .u64) (tmodN _ _)) ?_)
    refine wpF_step (op_eqv (d := (some 19)) (.int .u8 (IntKind.u8.wrap (((v / 256 ^ i) % 256 : Nat) : Int))) (.int .u8 ((((v / 256 ^ i) % 256) % 2 ^ 8 : Nat) : Int)) (by kernel_rfl) (congrArg (Value.int .u8) (wrapU rfl rfl)) ?_)
    refine wpF_step (op_v (d := (some 20)) (s := Instr.indexAt 23 (.slice (some ⟨w.heap.size, 0, none⟩) sz sz) (.int .i64 ((sz : Int) - 1 - (i : Int)))) (v := (.pointer (some ⟨w.heap.size, 0 + (sz - 1 - i) * 1, none⟩))) (by kernel_rfl) (by rw [hidx]; exact rn_ixs (E := 5) (sz := 1) (by kernel_rfl) (by kernel_rfl) (by omega)) ?_)
    refine wpF_step (op_store (d := none) 5 w.heap.size (0 + (sz - 1 - i) * 1) 5 (.int .u8 ((((v / 256 ^ i) % 256) % 2 ^ 8 : Nat) : Int)) (u8s (pick sz (fun j => decide (sz - 1 - j < i)) fun j => UInt8.ofNat (v / 256 ^ (sz - 1 - j)))) ([(.int .u8 ((((v / 256 ^ i) % 256) % 2 ^ 8 : Nat) : Int))]) (by kernel_rfl) hBl rfl (by kernel_rfl) (by simp; omega) (by simp [Value.oneCell']) ?_)
    intro w3 hBw3 hCw3
    have hzw3 := hCw3.size
    rw [show setFrom (u8s (pick sz (fun j => decide (sz - 1 - j < i)) fun j => UInt8.ofNat (v / 256 ^ (sz - 1 - j)))) (0 + (sz - 1 - i) * 1) ([(.int .u8 ((((v / 256 ^ i) % 256) % 2 ^ 8 : Nat) : Int))]) = u8s (pick sz (fun j => decide (sz - 1 - j < i + 1)) fun j => UInt8.ofNat (v / 256 ^ (sz - 1 - j))) from by have hx := pick_set sz (fun j => decide (sz - 1 - j < i)) (fun j => decide (sz - 1 - j < i + 1)) (fun j => UInt8.ofNat (v / 256 ^ (sz - 1 - j))) (sz - 1 - i) (UInt8.ofNat (v / 256 ^ i % 256)) (by omega) (by first | (rw [two_pow_8]; congr 3; omega) | (rw [u8_mod, show sz - 1 - (sz - 1 - i) = i from by omega])) (by intro j hj; by_cases h1 : sz - 1 - j < i + 1 <;> by_cases h2 : sz - 1 - j < i <;> by_cases h3 : j = sz - 1 - i <;> simp [h1, h2, h3] <;> omega); simpa [setFrom, UInt8.toNat_ofNat'] using hx] at hBw3
    refine wpF_end (by kernel_rfl) ?_
    refine then_code ?_
    refine wpC_region ?_
    refine wpF_run 1 [(21, (.int .u64 ((v / 256 ^ i : Nat) : Int)))] (by kernel_rfl) ?_
    refine wpF_step (op_eqv (d := (some 22)) (.int .u64 (IntKind.u64.wrap ((((v / 256 ^ i : Nat) : Int)).tdiv ((256 : Nat) : Int)))) (.int .u64 ((v / 256 ^ (i + 1) : Nat) : Int)) (by kernel_rfl) (congrArg (Value.int .u64) (wrapUx rfl (by rw [tdivN, Nat.div_div_eq_div_mul, Nat.pow_succ]) (by show _ < 2 ^ 64; exact Nat.lt_of_le_of_lt (Nat.div_le_self _ _) hp1))) ?_)
    refine wpF_run 1 [(0, (.int .u64 ((v / 256 ^ (i + 1) : Nat) : Int)))] (by kernel_rfl) ?_
    refine wpF_end (by kernel_rfl) ?_
    refine inBlock_normal ?_
    refine then_code ?_
    refine wpC_region ?_
    refine wpF_run 1 [(13, (.int .i64 ((sz : Int) - 1 - (i : Int))))] (by kernel_rfl) ?_
    refine wpF_step (op_eqv (d := (some 14)) (.int .i64 (IntKind.i64.wrap ((sz : Int) - 1 - (i : Int) - ((1 : Nat) : Int)))) (.int .i64 ((sz : Int) - 1 - ((i + 1 : Nat) : Int))) (by kernel_rfl) (congrArg (Value.int .i64) (wrapS (by omega) (by omega) (by omega))) ?_)
    refine wpF_run 1 [(6, (.int .i64 ((sz : Int) - 1 - ((i + 1 : Nat) : Int))))] (by kernel_rfl) ?_
    refine wpF_end (by kernel_rfl) ?_
    refine then_normal ?_
    refine endR_mk (i + 1) (by kernel_rfl) ?_ ?_
    · exact ⟨by omega, hBw3, (Ext.own hEl hCw3 (by omega))⟩
    · first | omega | (dsimp only; omega)
  · replace hc : ¬ i < sz := by have := of_d_f hc; omega
    refine wpF_end (by kernel_rfl) ?_
    refine then_code ?_
    refine wpC_false (by kernel_rfl) ?_
    refine wpC_exit ?_
    refine then_exit ?_
    refine then_exit ?_
    refine inBlock_exit ?_
    refine then_code ?_
    refine wpC_seq ?_
    refine wpC_region ?_
    refine wpF_run 2 [(4, (.slice (some ⟨w.heap.size, 0, none⟩) sz sz)), (23, (.slice (some ⟨w.heap.size, 0, none⟩) sz sz))] (by kernel_rfl) ?_
    refine wpF_end (by kernel_rfl) ?_
    refine then_code ?_
    refine wpC_ret ?_
    refine body_ret1 (by kernel_rfl) (show resVal Try.prog 24 _ _ (.tmp 4) (.slice (some ⟨w.heap.size, 0, none⟩) sz sz) by (show _ = _; kernel_rfl)) ?_
    have hBf := hBl
    rw [pick_all _ _ _ (by intro j hj; simp; omega)] at hBf
    exact ⟨_, rfl, Nat.le_refl _, hBf, by simp, by omega, hEl⟩

theorem c_Put64 (v : Nat)  (w : World)  :
    Calls Try.prog 15 #[(.int .u64 ((v : Nat) : Int))] w (Ret fun r w' => ∃ a0, r = (.slice a0 8 8) ∧ Bs w.heap.size w'.heap.size w' a0 8 8 (be v 8) ∧ Ext w w') := by
  refine calls_of (n := 5) (σ := [(0, (.int .u64 ((v : Nat) : Int)))]) Try.func15 rfl (by kernel_rfl) ?_
  refine wpC_seq ?_
  refine wpC_region ?_
  refine wpF_run 1 [(2, (.slice none 0 0))] (by kernel_rfl) ?_
  refine wpF_end (by kernel_rfl) ?_
  refine then_code ?_
  refine wpC_seq ?_
  refine wpC_region ?_
  refine wpF_run 1 [(3, (.int .u64 ((v : Nat) : Int)))] (by kernel_rfl) ?_
  refine wpF_step (op_callAt (d := (some 4)) (by kernel_rfl) (c_put v 8 _ (by omega)) ?_)
  rintro _ w1 ⟨a1, rfl, hFz1_0, hEw1⟩
  have hzw1 := hEw1.size
  refine wpF_run 1 [(2, (.slice a1 8 8))] (by kernel_rfl) ?_
  refine wpF_end (by kernel_rfl) ?_
  refine then_code ?_
  refine wpC_ret ?_
  refine body_ret1 (by kernel_rfl) (show resVal Try.prog 5 _ _ (.tmp 2) (.slice a1 8 8) by (show _ = _; kernel_rfl)) ?_
  exact ⟨_, rfl, hFz1_0, hEw1⟩

theorem c_Put32 (v : Nat)  (w : World) (hp0 : v < 2 ^ 32) :
    Calls Try.prog 18 #[(.int .u32 ((v : Nat) : Int))] w (Ret fun r w' => ∃ a0, r = (.slice a0 4 4) ∧ Bs w.heap.size w'.heap.size w' a0 4 4 (be v 4) ∧ Ext w w') := by
  refine calls_of (n := 6) (σ := [(0, (.int .u32 ((v : Nat) : Int)))]) Try.func18 rfl (by kernel_rfl) ?_
  refine wpC_seq ?_
  refine wpC_region ?_
  refine wpF_run 1 [(2, (.slice none 0 0))] (by kernel_rfl) ?_
  refine wpF_end (by kernel_rfl) ?_
  refine then_code ?_
  refine wpC_seq ?_
  refine wpC_region ?_
  refine wpF_run 1 [(3, (.int .u32 ((v : Nat) : Int)))] (by kernel_rfl) ?_
  refine wpF_step (op_eqv (d := (some 4)) (.int .u64 (IntKind.u64.wrap ((v : Nat) : Int))) (.int .u64 ((v : Nat) : Int)) (by kernel_rfl) (congrArg (Value.int .u64) (wrapUx rfl rfl (by show _ < 2 ^ 64; omega))) ?_)
  refine wpF_step (op_callAt (d := (some 5)) (by kernel_rfl) (c_put v 4 _ (by omega)) ?_)
  rintro _ w1 ⟨a1, rfl, hFz1_0, hEw1⟩
  have hzw1 := hEw1.size
  refine wpF_run 1 [(2, (.slice a1 4 4))] (by kernel_rfl) ?_
  refine wpF_end (by kernel_rfl) ?_
  refine then_code ?_
  refine wpC_ret ?_
  refine body_ret1 (by kernel_rfl) (show resVal Try.prog 6 _ _ (.tmp 2) (.slice a1 4 4) by (show _ = _; kernel_rfl)) ?_
  exact ⟨_, rfl, hFz1_0, hEw1⟩

theorem c_rPut64 (v : Nat)  (w : World) (hp0 : v < 2 ^ 64) :
    Calls Try.prog 20 #[(.int .u64 ((v : Nat) : Int))] w (Ret fun r w' => ∃ a0, r = (.slice (some ⟨a0, 0, none⟩) 8 8) ∧ w.heap.size ≤ a0 ∧ Blk w' a0 (u8s (be v 8)) 5 ∧ 8 = (be v 8).length ∧ 8 ≤ 1099511627776 ∧ Ext w w') := by
  refine calls_of (n := 5) (σ := [(0, (.int .u64 ((v : Nat) : Int)))]) Try.func20 rfl (by kernel_rfl) ?_
  refine wpC_seq ?_
  refine wpC_region ?_
  refine wpF_run 1 [(2, (.slice none 0 0))] (by kernel_rfl) ?_
  refine wpF_end (by kernel_rfl) ?_
  refine then_code ?_
  refine wpC_seq ?_
  refine wpC_region ?_
  refine wpF_run 1 [(3, (.int .u64 ((v : Nat) : Int)))] (by kernel_rfl) ?_
  refine wpF_step (op_callAt (d := (some 4)) (by kernel_rfl) (c_rPut v 8 _ (by omega) (by omega)) ?_)
  rintro _ w1 ⟨a1, rfl, hFz1_0, hFz1_1, hFz1_2, hFz1_3, hEw1⟩
  have hzw1 := hEw1.size
  have hla1 := hFz1_1.lt; have hna1 := hFz1_3
  have hSa1 : Bs a1 (a1 + 1) w1 (some ⟨a1, 0, none⟩) 8 8 (be v 8) := Bs.of_blk hFz1_1 rfl hFz1_2 (Nat.le_refl _) (le_maxLen hna1) (Nat.le_refl _) (Nat.lt_succ_self _)
  refine wpF_run 1 [(2, (.slice (some ⟨a1, 0, none⟩) 8 8))] (by kernel_rfl) ?_
  refine wpF_end (by kernel_rfl) ?_
  refine then_code ?_
  refine wpC_ret ?_
  refine body_ret1 (by kernel_rfl) (show resVal Try.prog 5 _ _ (.tmp 2) (.slice (some ⟨a1, 0, none⟩) 8 8) by (show _ = _; kernel_rfl)) ?_
  exact ⟨_, rfl, by omega, hFz1_1, by simp, by omega, hEw1⟩

theorem c_rPut32 (v : Nat)  (w : World) (hp0 : v < 2 ^ 32) :
    Calls Try.prog 21 #[(.int .u32 ((v : Nat) : Int))] w (Ret fun r w' => ∃ a0, r = (.slice (some ⟨a0, 0, none⟩) 4 4) ∧ w.heap.size ≤ a0 ∧ Blk w' a0 (u8s (be v 4)) 5 ∧ 4 = (be v 4).length ∧ 4 ≤ 1099511627776 ∧ Ext w w') := by
  refine calls_of (n := 6) (σ := [(0, (.int .u32 ((v : Nat) : Int)))]) Try.func21 rfl (by kernel_rfl) ?_
  refine wpC_seq ?_
  refine wpC_region ?_
  refine wpF_run 1 [(2, (.slice none 0 0))] (by kernel_rfl) ?_
  refine wpF_end (by kernel_rfl) ?_
  refine then_code ?_
  refine wpC_seq ?_
  refine wpC_region ?_
  refine wpF_run 1 [(3, (.int .u32 ((v : Nat) : Int)))] (by kernel_rfl) ?_
  refine wpF_step (op_eqv (d := (some 4)) (.int .u64 (IntKind.u64.wrap ((v : Nat) : Int))) (.int .u64 ((v : Nat) : Int)) (by kernel_rfl) (congrArg (Value.int .u64) (wrapUx rfl rfl (by show _ < 2 ^ 64; omega))) ?_)
  refine wpF_step (op_callAt (d := (some 5)) (by kernel_rfl) (c_rPut v 4 _ (by omega) (by omega)) ?_)
  rintro _ w1 ⟨a1, rfl, hFz1_0, hFz1_1, hFz1_2, hFz1_3, hEw1⟩
  have hzw1 := hEw1.size
  have hla1 := hFz1_1.lt; have hna1 := hFz1_3
  have hSa1 : Bs a1 (a1 + 1) w1 (some ⟨a1, 0, none⟩) 4 4 (be v 4) := Bs.of_blk hFz1_1 rfl hFz1_2 (Nat.le_refl _) (le_maxLen hna1) (Nat.le_refl _) (Nat.lt_succ_self _)
  refine wpF_run 1 [(2, (.slice (some ⟨a1, 0, none⟩) 4 4))] (by kernel_rfl) ?_
  refine wpF_end (by kernel_rfl) ?_
  refine then_code ?_
  refine wpC_ret ?_
  refine body_ret1 (by kernel_rfl) (show resVal Try.prog 6 _ _ (.tmp 2) (.slice (some ⟨a1, 0, none⟩) 4 4) by (show _ = _; kernel_rfl)) ?_
  exact ⟨_, rfl, by omega, hFz1_1, by simp, by omega, hEw1⟩

theorem c_get {lo_l hi_l : Nat} {a_l : Option Addr} {n_l c_l : Nat} {l : List UInt8} (sz : Nat)  (w : World) (h_l : Bs lo_l hi_l w a_l n_l c_l l) (hp0 : sz ≤ 8) :
    Calls Try.prog 49 #[(.slice a_l n_l c_l), (.int .i64 ((sz : Nat) : Int))] w (Ret fun r w' => r = (.tuple #[(.int .u64 ((getV l sz : Nat) : Int)), (.int .i64 ((getE l sz : Nat) : Int))]) ∧ w = w') := by
  refine calls_of (n := 32) (σ := [(0, (.slice a_l n_l c_l)), (1, (.int .i64 ((sz : Nat) : Int)))]) Try.func49 rfl (by kernel_rfl) ?_
  replace h_l := h_l.now; have hle_l := h_l.le
  refine wpC_seq ?_
  refine wpC_region ?_
  refine wpF_run 2 [(5, (.int .i64 ((0 : Nat) : Int))), (4, (.int .u64 ((0 : Nat) : Int)))] (by kernel_rfl) ?_
  refine wpF_end (by kernel_rfl) ?_
  refine then_code ?_
  refine wpC_seq ?_
  refine wpC_block ?_
  refine wpC_seq ?_
  refine wpC_region ?_
  refine wpF_run 3 [(12, (.int .i64 ((sz : Nat) : Int))), (11, (.int .i64 ((n_l : Nat) : Int))), (10, (.slice a_l n_l c_l))] (by kernel_rfl) ?_
  refine wpF_step (op_split (d := (some 13)) (decide (((n_l : Nat) : Int) < ((sz : Nat) : Int))) (by kernel_rfl) (fun hc13 => ?_) (fun hc13 => ?_))
  · replace hc13 : n_l < sz := by have := of_d_t hc13; omega
    refine wpF_run 1 [(9, (.bool true))] (by kernel_rfl) ?_
    refine wpF_end (by kernel_rfl) ?_
    refine then_code ?_
    refine wpC_true (by kernel_rfl) ?_
    refine wpC_seq ?_
    refine wpC_region ?_
    refine wpF_run 2 [(5, (.int .i64 ((6 : Nat) : Int))), (4, (.int .u64 ((0 : Nat) : Int)))] (by kernel_rfl) ?_
    refine wpF_end (by kernel_rfl) ?_
    refine then_code ?_
    refine wpC_ret ?_
    refine inBlock_ret ?_
    refine then_ret ?_
    refine body_ret2 (by kernel_rfl) (show resVal Try.prog 32 _ _ (.tmp 4) (.int .u64 ((0 : Nat) : Int)) by (show _ = _; kernel_rfl)) (show resVal Try.prog 32 _ _ (.tmp 5) (.int .i64 ((6 : Nat) : Int)) by (show _ = _; kernel_rfl)) ?_
    exact ⟨by rw [getV_ne (by have := h_l.len_eq; omega), getE_short (by have := h_l.len_eq; omega)], rfl⟩
  · replace hc13 : ¬ (n_l < sz) := by have := of_d_f hc13; omega
    refine wpF_run 1 [(9, (.bool false))] (by kernel_rfl) ?_
    refine wpF_end (by kernel_rfl) ?_
    refine then_code ?_
    refine wpC_false (by kernel_rfl) ?_
    refine wpC_seq ?_
    refine wpC_region ?_
    refine wpF_run 3 [(17, (.int .i64 ((sz : Nat) : Int))), (16, (.int .i64 ((n_l : Nat) : Int))), (15, (.slice a_l n_l c_l))] (by kernel_rfl) ?_
    refine wpF_step (op_split (d := (some 18)) (decide (((n_l : Nat) : Int) > ((sz : Nat) : Int))) (by kernel_rfl) (fun hc18 => ?_) (fun hc18 => ?_))
    · replace hc18 : n_l > sz := by have := of_d_t hc18; omega
      refine wpF_run 1 [(14, (.bool true))] (by kernel_rfl) ?_
      refine wpF_end (by kernel_rfl) ?_
      refine then_code ?_
      refine wpC_true (by kernel_rfl) ?_
      refine wpC_seq ?_
      refine wpC_region ?_
      refine wpF_run 2 [(5, (.int .i64 ((5 : Nat) : Int))), (4, (.int .u64 ((0 : Nat) : Int)))] (by kernel_rfl) ?_
      refine wpF_end (by kernel_rfl) ?_
      refine then_code ?_
      refine wpC_ret ?_
      refine inBlock_ret ?_
      refine then_ret ?_
      refine body_ret2 (by kernel_rfl) (show resVal Try.prog 32 _ _ (.tmp 4) (.int .u64 ((0 : Nat) : Int)) by (show _ = _; kernel_rfl)) (show resVal Try.prog 32 _ _ (.tmp 5) (.int .i64 ((5 : Nat) : Int)) by (show _ = _; kernel_rfl)) ?_
      exact ⟨by rw [getV_ne (by have := h_l.len_eq; omega), getE_long (by have := h_l.len_eq; omega)], rfl⟩
    · replace hc18 : ¬ (n_l > sz) := by have := of_d_f hc18; omega
      refine wpF_run 1 [(14, (.bool false))] (by kernel_rfl) ?_
      refine wpF_end (by kernel_rfl) ?_
      refine then_code ?_
      refine wpC_false (by kernel_rfl) ?_
      refine wpC_skip ?_
      refine inBlock_normal ?_
      refine then_code ?_
      refine wpC_seq ?_
      refine wpC_region ?_
      refine wpF_run 1 [(6, (.int .u64 ((0 : Nat) : Int)))] (by kernel_rfl) ?_
      refine wpF_end (by kernel_rfl) ?_
      refine then_code ?_
      refine wpC_seq ?_
      refine wpC_seq ?_
      refine wpC_region ?_
      refine wpF_run 3 [(21, (.int .i64 ((0 : Nat) : Int))), (20, (.int .i64 ((n_l : Nat) : Int))), (19, (.slice a_l n_l c_l))] (by kernel_rfl) ?_
      refine wpF_end (by kernel_rfl) ?_
      refine then_code ?_
      refine wpC_block ?_
      refine wpC_loop (X := Nat) (fun i => [(6, (.int .u64 ((num (l.take i) : Nat) : Int))), (21, (.int .i64 ((i : Nat) : Int)))]) [8, 22, 23, 24, 25, 26, 27, 28, 29, 30] (fun i w1 => w = w1 ∧ i ≤ sz) (fun i => sz - i) 0 (by rw [List.take_zero]; kernel_rfl) ⟨rfl, by omega⟩ ?_
      rintro i dw1 w1 ⟨rfl, hi⟩
      have hlen := h_l.len_eq
      refine wpC_seq ?_
      refine wpC_region ?_
      refine wpF_step (op_split (d := (some 22)) (decide (((i : Nat) : Int) < ((n_l : Nat) : Int))) (by kernel_rfl) (fun hc22 => ?_) (fun hc22 => ?_))
      · replace hc22 : i < n_l := by have := of_d_t hc22; omega
        have hb1 := byt_lt l i
        have hb2 : num (l.take i) * 256 + 255 < 2 ^ 64 := num_take_lt (by omega)
        refine wpF_end (by kernel_rfl) ?_
        refine then_code ?_
        refine wpC_seq ?_
        refine wpC_true (by kernel_rfl) ?_
        refine wpC_skip ?_
        refine then_code ?_
        refine wpC_seq ?_
        refine wpC_block ?_
        refine wpC_seq ?_
        refine wpC_region ?_
        obtain ⟨b1, o1, rfl⟩ := h_l.addr (by omega)
        refine wpF_step (op_v (d := (some 23)) (s := Instr.indexAt 23 (.slice (some ⟨b1, o1, none⟩) n_l c_l) (.int .i64 ((i : Nat) : Int))) (v := (.pointer (some ⟨b1, o1 + i * 1, none⟩))) (by kernel_rfl) (rn_ixs (E := 5) (sz := 1) (by kernel_rfl) (by kernel_rfl) (by omega)) ?_)
        refine wpF_step (op_v (d := (some 24)) (s := Instr.loadAt 5 (.pointer (some ⟨b1, o1 + i * 1, none⟩))) (v := (.int .u8 ((byt l i : Nat) : Int))) (by kernel_rfl) (rn_ld (by kernel_rfl) (h_l.cell1 (by omega))) ?_)
        refine wpF_run 1 [(8, (.int .u8 ((byt l i : Nat) : Int)))] (by kernel_rfl) ?_
        refine wpF_end (by kernel_rfl) ?_
        refine then_code ?_
        refine wpC_region ?_
        refine wpF_run 1 [(25, (.int .u64 ((num (l.take i) : Nat) : Int)))] (by kernel_rfl) ?_
        refine wpF_step (op_eqv (d := (some 26)) (.int .u64 (IntKind.u64.wrap (((num (l.take i) : Nat) : Int) * 2 ^ 8))) (.int .u64 ((num (l.take i) * 256 : Nat) : Int)) (by kernel_rfl) (congrArg (Value.int .u64) ((shlU rfl).trans (by rw [Nat.mod_eq_of_lt (show _ < 2 ^ IntKind.u64.bits from by show _ < 2 ^ 64; omega)]))) ?_)
        refine wpF_run 1 [(27, (.int .u8 ((byt l i : Nat) : Int)))] (by kernel_rfl) ?_
        refine wpF_step (op_eqv (d := (some 28)) (.int .u64 (IntKind.u64.wrap ((byt l i : Nat) : Int))) (.int .u64 ((byt l i : Nat) : Int)) (by kernel_rfl) (congrArg (Value.int .u64) (wrapUx rfl rfl (by show _ < 2 ^ 64; omega))) ?_)
        refine wpF_step (op_eqv (d := (some 29)) (.int .u64 ((IntKind.u64.wrap ((BitVec.ofInt IntKind.u64.bits ((num (l.take i) * 256 : Nat) : Int) ||| BitVec.ofInt IntKind.u64.bits ((byt l i : Nat) : Int)).toNat : Int)))) (.int .u64 ((num (l.take (i + 1)) : Nat) : Int)) (by kernel_rfl) (congrArg (Value.int .u64) ((orU .u64 rfl (by show _ < 2 ^ 64; omega) (by show _ < 2 ^ 64; omega)).trans (by rw [or_byte _ _ hb1, num_take (by omega)]))) ?_)
        refine wpF_run 1 [(6, (.int .u64 ((num (l.take (i + 1)) : Nat) : Int)))] (by kernel_rfl) ?_
        refine wpF_end (by kernel_rfl) ?_
        refine inBlock_normal ?_
        refine then_code ?_
        refine wpC_region ?_
        refine wpF_step (op_eqv (d := (some 30)) (.int .i64 (IntKind.i64.wrap (((i : Nat) : Int) + ((1 : Nat) : Int)))) (.int .i64 ((i + 1 : Nat) : Int)) (by kernel_rfl) (congrArg (Value.int .i64) (wrapS (by omega) (by omega) (by omega))) ?_)
        refine wpF_run 1 [(21, (.int .i64 ((i + 1 : Nat) : Int)))] (by kernel_rfl) ?_
        refine wpF_end (by kernel_rfl) ?_
        refine then_normal ?_
        refine endR_mk (i + 1) (by kernel_rfl) ?_ ?_
        · exact ⟨rfl, by omega⟩
        · first | omega | (dsimp only; omega)
      · replace hc22 : ¬ (i < n_l) := by have := of_d_f hc22; omega
        refine wpF_end (by kernel_rfl) ?_
        refine then_code ?_
        refine wpC_seq ?_
        refine wpC_false (by kernel_rfl) ?_
        refine wpC_exit ?_
        refine then_exit ?_
        refine then_exit ?_
        refine inBlock_exit ?_
        refine then_code ?_
        refine wpC_seq ?_
        refine wpC_region ?_
        refine wpF_run 3 [(5, (.int .i64 ((0 : Nat) : Int))), (4, (.int .u64 ((num (l.take i) : Nat) : Int))), (31, (.int .u64 ((num (l.take i) : Nat) : Int)))] (by kernel_rfl) ?_
        refine wpF_end (by kernel_rfl) ?_
        refine then_code ?_
        refine wpC_ret ?_
        refine body_ret2 (by kernel_rfl) (show resVal Try.prog 32 _ _ (.tmp 4) (.int .u64 ((num (l.take i) : Nat) : Int)) by (show _ = _; kernel_rfl)) (show resVal Try.prog 32 _ _ (.tmp 5) (.int .i64 ((0 : Nat) : Int)) by (show _ = _; kernel_rfl)) ?_
        exact ⟨by rw [getV_eq (by have := h_l.len_eq; omega), getE_eq (by have := h_l.len_eq; omega), List.take_of_length_le (by omega)], rfl⟩

theorem c_rGet {lo_l hi_l : Nat} {a_l : Option Addr} {n_l c_l : Nat} {l : List UInt8} (sz : Nat)  (w : World) (h_l : Bs lo_l hi_l w a_l n_l c_l l) (hp0 : sz ≤ 8) :
    Calls Try.prog 24 #[(.slice a_l n_l c_l), (.int .i64 ((sz : Nat) : Int))] w (Ret fun r w' => r = (.tuple #[(.int .u64 ((getV l sz : Nat) : Int)), (.int .i64 ((getE l sz : Nat) : Int))]) ∧ w = w') := by
  refine calls_of (n := 30) (σ := [(0, (.slice a_l n_l c_l)), (1, (.int .i64 ((sz : Nat) : Int)))]) Try.func24 rfl (by kernel_rfl) ?_
  replace h_l := h_l.now; have hle_l := h_l.le
  refine wpC_seq ?_
  refine wpC_region ?_
  refine wpF_run 2 [(5, (.int .i64 ((0 : Nat) : Int))), (4, (.int .u64 ((0 : Nat) : Int)))] (by kernel_rfl) ?_
  refine wpF_end (by kernel_rfl) ?_
  refine then_code ?_
  refine wpC_seq ?_
  refine wpC_seq ?_
  refine wpC_region ?_
  refine wpF_run 3 [(10, (.int .i64 ((sz : Nat) : Int))), (9, (.int .i64 ((n_l : Nat) : Int))), (8, (.slice a_l n_l c_l))] (by kernel_rfl) ?_
  refine wpF_step (op_split (d := (some 11)) (decide (((n_l : Nat) : Int) < ((sz : Nat) : Int))) (by kernel_rfl) (fun hc11 => ?_) (fun hc11 => ?_))
  · replace hc11 : n_l < sz := by have := of_d_t hc11; omega
    refine wpF_end (by kernel_rfl) ?_
    refine then_code ?_
    refine wpC_true (by kernel_rfl) ?_
    refine wpC_seq ?_
    refine wpC_region ?_
    refine wpF_run 2 [(5, (.int .i64 ((6 : Nat) : Int))), (4, (.int .u64 ((0 : Nat) : Int)))] (by kernel_rfl) ?_
    refine wpF_end (by kernel_rfl) ?_
    refine then_code ?_
    refine wpC_ret ?_
    refine then_ret ?_
    refine body_ret2 (by kernel_rfl) (show resVal Try.prog 30 _ _ (.tmp 4) (.int .u64 ((0 : Nat) : Int)) by (show _ = _; kernel_rfl)) (show resVal Try.prog 30 _ _ (.tmp 5) (.int .i64 ((6 : Nat) : Int)) by (show _ = _; kernel_rfl)) ?_
    exact ⟨by rw [getV_ne (by have := h_l.len_eq; omega), getE_short (by have := h_l.len_eq; omega)], rfl⟩
  · replace hc11 : ¬ (n_l < sz) := by have := of_d_f hc11; omega
    refine wpF_end (by kernel_rfl) ?_
    refine then_code ?_
    refine wpC_false (by kernel_rfl) ?_
    refine wpC_skip ?_
    refine then_code ?_
    refine wpC_seq ?_
    refine wpC_seq ?_
    refine wpC_region ?_
    refine wpF_run 3 [(14, (.int .i64 ((sz : Nat) : Int))), (13, (.int .i64 ((n_l : Nat) : Int))), (12, (.slice a_l n_l c_l))] (by kernel_rfl) ?_
    refine wpF_step (op_split (d := (some 15)) (decide (((n_l : Nat) : Int) > ((sz : Nat) : Int))) (by kernel_rfl) (fun hc15 => ?_) (fun hc15 => ?_))
    · replace hc15 : n_l > sz := by have := of_d_t hc15; omega
      refine wpF_end (by kernel_rfl) ?_
      refine then_code ?_
      refine wpC_true (by kernel_rfl) ?_
      refine wpC_seq ?_
      refine wpC_region ?_
      refine wpF_run 2 [(5, (.int .i64 ((5 : Nat) : Int))), (4, (.int .u64 ((0 : Nat) : Int)))] (by kernel_rfl) ?_
      refine wpF_end (by kernel_rfl) ?_
      refine then_code ?_
      refine wpC_ret ?_
      refine then_ret ?_
      refine body_ret2 (by kernel_rfl) (show resVal Try.prog 30 _ _ (.tmp 4) (.int .u64 ((0 : Nat) : Int)) by (show _ = _; kernel_rfl)) (show resVal Try.prog 30 _ _ (.tmp 5) (.int .i64 ((5 : Nat) : Int)) by (show _ = _; kernel_rfl)) ?_
      exact ⟨by rw [getV_ne (by have := h_l.len_eq; omega), getE_long (by have := h_l.len_eq; omega)], rfl⟩
    · replace hc15 : ¬ (n_l > sz) := by have := of_d_f hc15; omega
      refine wpF_end (by kernel_rfl) ?_
      refine then_code ?_
      refine wpC_false (by kernel_rfl) ?_
      refine wpC_skip ?_
      refine then_code ?_
      refine wpC_seq ?_
      refine wpC_region ?_
      refine wpF_run 1 [(6, (.int .u64 ((0 : Nat) : Int)))] (by kernel_rfl) ?_
      refine wpF_end (by kernel_rfl) ?_
      refine then_code ?_
      refine wpC_seq ?_
      refine wpC_seq ?_
      refine wpC_region ?_
      refine wpF_run 1 [(7, (.int .i64 ((0 : Nat) : Int)))] (by kernel_rfl) ?_
      refine wpF_end (by kernel_rfl) ?_
      refine then_code ?_
      refine wpC_block ?_
      refine wpC_loop (X := Nat) (fun i => [(6, (.int .u64 ((num (l.take i) : Nat) : Int))), (7, (.int .i64 ((i : Nat) : Int)))]) [16, 17, 18, 19, 20, 21, 22, 23, 24, 25, 26, 27, 28] (fun i w1 => w = w1 ∧ i ≤ sz) (fun i => sz - i) 0 (by rw [List.take_zero]; kernel_rfl) ⟨rfl, by omega⟩ ?_
      rintro i dw1 w1 ⟨rfl, hi⟩
      have hlen := h_l.len_eq
      refine wpC_seq ?_
      refine wpC_seq ?_
      refine wpC_region ?_
      refine wpF_run 2 [(17, (.int .i64 ((sz : Nat) : Int))), (16, (.int .i64 ((i : Nat) : Int)))] (by kernel_rfl) ?_
      refine wpF_step (op_split (d := (some 18)) (decide (((i : Nat) : Int) < ((sz : Nat) : Int))) (by kernel_rfl) (fun hc18 => ?_) (fun hc18 => ?_))
      · replace hc18 : i < sz := by have := of_d_t hc18; omega
        have hb1 := byt_lt l i
        have hb2 : num (l.take i) * 256 + 255 < 2 ^ 64 := num_take_lt (by omega)
        refine wpF_end (by kernel_rfl) ?_
        refine then_code ?_
        refine wpC_true (by kernel_rfl) ?_
        refine wpC_skip ?_
        refine then_code ?_
        refine wpC_seq ?_
        refine wpC_block ?_
        refine wpC_region ?_
        refine wpF_run 1 [(21, (.int .u64 ((num (l.take i) : Nat) : Int)))] (by kernel_rfl) ?_
        refine wpF_step (op_eqv (d := (some 22)) (.int .u64 (IntKind.u64.wrap (((num (l.take i) : Nat) : Int) * ((256 : Nat) : Int)))) (.int .u64 ((num (l.take i) * 256 : Nat) : Int)) (by kernel_rfl) (congrArg (Value.int .u64) (wrapUx rfl (by simp) (by show _ < 2 ^ 64; omega))) ?_)
        refine wpF_run 2 [(24, (.int .i64 ((i : Nat) : Int))), (23, (.slice a_l n_l c_l))] (by kernel_rfl) ?_
        obtain ⟨b1, o1, rfl⟩ := h_l.addr (by omega)
        refine wpF_step (op_v (d := (some 25)) (s := Instr.indexAt 23 (.slice (some ⟨b1, o1, none⟩) n_l c_l) (.int .i64 ((i : Nat) : Int))) (v := (.pointer (some ⟨b1, o1 + i * 1, none⟩))) (by kernel_rfl) (rn_ixs (E := 5) (sz := 1) (by kernel_rfl) (by kernel_rfl) (by omega)) ?_)
        refine wpF_step (op_v (d := (some 26)) (s := Instr.loadAt 5 (.pointer (some ⟨b1, o1 + i * 1, none⟩))) (v := (.int .u8 ((byt l i : Nat) : Int))) (by kernel_rfl) (rn_ld (by kernel_rfl) (h_l.cell1 (by omega))) ?_)
        refine wpF_step (op_eqv (d := (some 27)) (.int .u64 (IntKind.u64.wrap ((byt l i : Nat) : Int))) (.int .u64 ((byt l i : Nat) : Int)) (by kernel_rfl) (congrArg (Value.int .u64) (wrapUx rfl rfl (by show _ < 2 ^ 64; omega))) ?_)
        refine wpF_step (op_eqv (d := (some 28)) (.int .u64 (IntKind.u64.wrap (((num (l.take i) * 256 : Nat) : Int) + ((byt l i : Nat) : Int)))) (.int .u64 ((num (l.take (i + 1)) : Nat) : Int)) (by kernel_rfl) (congrArg (Value.int .u64) (wrapUx rfl (by rw [num_take (by omega)]; omega) (by rw [num_take (by omega)]; show _ < 2 ^ 64; omega))) ?_)
        refine wpF_run 1 [(6, (.int .u64 ((num (l.take (i + 1)) : Nat) : Int)))] (by kernel_rfl) ?_
        refine wpF_end (by kernel_rfl) ?_
        refine inBlock_normal ?_
        refine then_code ?_
        refine wpC_region ?_
        refine wpF_run 1 [(19, (.int .i64 ((i : Nat) : Int)))] (by kernel_rfl) ?_
        refine wpF_step (op_eqv (d := (some 20)) (.int .i64 (IntKind.i64.wrap (((i : Nat) : Int) + ((1 : Nat) : Int)))) (.int .i64 ((i + 1 : Nat) : Int)) (by kernel_rfl) (congrArg (Value.int .i64) (wrapS (by omega) (by omega) (by omega))) ?_)
        refine wpF_run 1 [(7, (.int .i64 ((i + 1 : Nat) : Int)))] (by kernel_rfl) ?_
        refine wpF_end (by kernel_rfl) ?_
        refine then_normal ?_
        refine endR_mk (i + 1) (by kernel_rfl) ?_ ?_
        · exact ⟨rfl, by omega⟩
        · first | omega | (dsimp only; omega)
      · replace hc18 : ¬ (i < sz) := by have := of_d_f hc18; omega
        refine wpF_end (by kernel_rfl) ?_
        refine then_code ?_
        refine wpC_false (by kernel_rfl) ?_
        refine wpC_exit ?_
        refine then_exit ?_
        refine then_exit ?_
        refine inBlock_exit ?_
        refine then_code ?_
        refine wpC_seq ?_
        refine wpC_region ?_
        refine wpF_run 3 [(5, (.int .i64 ((0 : Nat) : Int))), (4, (.int .u64 ((num (l.take i) : Nat) : Int))), (29, (.int .u64 ((num (l.take i) : Nat) : Int)))] (by kernel_rfl) ?_
        refine wpF_end (by kernel_rfl) ?_
        refine then_code ?_
        refine wpC_ret ?_
        refine body_ret2 (by kernel_rfl) (show resVal Try.prog 30 _ _ (.tmp 4) (.int .u64 ((num (l.take i) : Nat) : Int)) by (show _ = _; kernel_rfl)) (show resVal Try.prog 30 _ _ (.tmp 5) (.int .i64 ((0 : Nat) : Int)) by (show _ = _; kernel_rfl)) ?_
        exact ⟨by rw [getV_eq (by have := h_l.len_eq; omega), getE_eq (by have := h_l.len_eq; omega), List.take_of_length_le (by omega)], rfl⟩

theorem c_Get64 {lo_l hi_l : Nat} {a_l : Option Addr} {n_l c_l : Nat} {l : List UInt8}  (w : World) (h_l : Bs lo_l hi_l w a_l n_l c_l l) :
    Calls Try.prog 16 #[(.slice a_l n_l c_l)] w (Ret fun r w' => r = (.tuple #[(.int .u64 ((getV l 8 : Nat) : Int)), (.int .i64 ((getE l 8 : Nat) : Int))]) ∧ w = w') := by
  refine calls_of (n := 8) (σ := [(0, (.slice a_l n_l c_l))]) Try.func16 rfl (by kernel_rfl) ?_
  replace h_l := h_l.now; have hle_l := h_l.le
  refine wpC_seq ?_
  refine wpC_region ?_
  refine wpF_run 2 [(3, (.int .i64 ((0 : Nat) : Int))), (2, (.int .u64 ((0 : Nat) : Int)))] (by kernel_rfl) ?_
  refine wpF_end (by kernel_rfl) ?_
  refine then_code ?_
  refine wpC_seq ?_
  refine wpC_region ?_
  refine wpF_run 1 [(4, (.slice a_l n_l c_l))] (by kernel_rfl) ?_
  refine wpF_step (op_callAt (d := (some 5)) (by kernel_rfl) (c_get 8 _ h_l (by omega)) ?_)
  rintro _ _ ⟨rfl, rfl⟩
  refine wpF_run 4 [(3, (.int .i64 ((getE l 8 : Nat) : Int))), (2, (.int .u64 ((getV l 8 : Nat) : Int))), (7, (.int .i64 ((getE l 8 : Nat) : Int))), (6, (.int .u64 ((getV l 8 : Nat) : Int)))] (by kernel_rfl) ?_
  refine wpF_end (by kernel_rfl) ?_
  refine then_code ?_
  refine wpC_ret ?_
  refine body_ret2 (by kernel_rfl) (show resVal Try.prog 8 _ _ (.tmp 2) (.int .u64 ((getV l 8 : Nat) : Int)) by (show _ = _; kernel_rfl)) (show resVal Try.prog 8 _ _ (.tmp 3) (.int .i64 ((getE l 8 : Nat) : Int)) by (show _ = _; kernel_rfl)) ?_
  exact ⟨rfl, rfl⟩

theorem c_Get32 {lo_l hi_l : Nat} {a_l : Option Addr} {n_l c_l : Nat} {l : List UInt8}  (w : World) (h_l : Bs lo_l hi_l w a_l n_l c_l l) :
    Calls Try.prog 17 #[(.slice a_l n_l c_l)] w (Ret fun r w' => r = (.tuple #[(.int .u32 ((getV l 4 : Nat) : Int)), (.int .i64 ((getE l 4 : Nat) : Int))]) ∧ w = w') := by
  refine calls_of (n := 14) (σ := [(0, (.slice a_l n_l c_l))]) Try.func17 rfl (by kernel_rfl) ?_
  replace h_l := h_l.now; have hle_l := h_l.le
  refine wpC_seq ?_
  refine wpC_region ?_
  refine wpF_run 2 [(3, (.int .i64 ((0 : Nat) : Int))), (2, (.int .u32 ((0 : Nat) : Int)))] (by kernel_rfl) ?_
  refine wpF_end (by kernel_rfl) ?_
  refine then_code ?_
  refine wpC_seq ?_
  refine wpC_region ?_
  refine wpF_run 1 [(7, (.slice a_l n_l c_l))] (by kernel_rfl) ?_
  refine wpF_step (op_callAt (d := (some 8)) (by kernel_rfl) (c_get 4 _ h_l (by omega)) ?_)
  rintro _ _ ⟨rfl, rfl⟩
  refine wpF_run 5 [(5, (.int .i64 ((getE l 4 : Nat) : Int))), (4, (.int .u64 ((getV l 4 : Nat) : Int))), (10, (.int .i64 ((getE l 4 : Nat) : Int))), (9, (.int .u64 ((getV l 4 : Nat) : Int))), (6, (.tuple #[(.int .u64 ((getV l 4 : Nat) : Int)), (.int .i64 ((getE l 4 : Nat) : Int))]))] (by kernel_rfl) ?_
  refine wpF_end (by kernel_rfl) ?_
  refine then_code ?_
  refine wpC_seq ?_
  refine wpC_region ?_
  refine wpF_run 1 [(11, (.int .u64 ((getV l 4 : Nat) : Int)))] (by kernel_rfl) ?_
  refine wpF_step (op_eqv (d := (some 12)) (.int .u32 (IntKind.u32.wrap ((getV l 4 : Nat) : Int))) (.int .u32 ((getV l 4 : Nat) : Int)) (by kernel_rfl) (congrArg (Value.int .u32) (wrapUx rfl rfl (getV_lt l 4))) ?_)
  refine wpF_run 3 [(3, (.int .i64 ((getE l 4 : Nat) : Int))), (2, (.int .u32 ((getV l 4 : Nat) : Int))), (13, (.int .i64 ((getE l 4 : Nat) : Int)))] (by kernel_rfl) ?_
  refine wpF_end (by kernel_rfl) ?_
  refine then_code ?_
  refine wpC_ret ?_
  refine body_ret2 (by kernel_rfl) (show resVal Try.prog 14 _ _ (.tmp 2) (.int .u32 ((getV l 4 : Nat) : Int)) by (show _ = _; kernel_rfl)) (show resVal Try.prog 14 _ _ (.tmp 3) (.int .i64 ((getE l 4 : Nat) : Int)) by (show _ = _; kernel_rfl)) ?_
  exact ⟨rfl, rfl⟩

end Go.Proofs.Ytigeaknjhnichaa
