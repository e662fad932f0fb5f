/- CsW1: what each function does, by its own code. No condition beyond those of each statement. -/
import Derived.Test.YthjplefmfjkhfaaDoorProg
import Derived.Test.YthjplefmfjkhfaaDoorCsWords0
namespace Go.Proofs.YthjplefmfjkhfaaDoor
open Go Go.RowKit Go.Cs
set_option maxRecDepth 100000
set_option linter.all false
set_option linter.unusedVariables false

theorem c_put (v : Nat) (sz : Nat)  (w : World) (hp0 : sz ≤ 8) :
    Calls Tryd.prog 64 #[(vQ v), (vI sz)] w (Ret fun r w' => ∃ a0, r = (.slice a0 sz sz) ∧ Bs w.heap.size w'.heap.size w' a0 sz sz (be v sz) ∧ Ext w w') := by
  refine calls_of (n := 26) (σ := [(0, (vQ v)), (1, (vI sz))]) Tryd.func64 rfl ?_
  refine wpC_seq (wpC_region (wpF_run 1 [(4, (.slice none 0 0))] (wpF_end (then_code (wpC_seq (wpC_region (wpF_run 1 [(7, (vI sz))] (wpF_step (op_make (some 8) 91 5 1 1 sz sz .i64 .i64 (vB 0) (by omega) (by omega) (by omega) ?_)))))))))
  rw [made_one _ rfl]
  intro w1 hBw1 hEw1
  have hzw1 := hEw1.size; have hlw1 := hBw1.lt
  have hSw1 : Bs w.heap.size (w.heap.size + 1) w1 (pA w.heap.size 0) sz sz (List.replicate sz 0) := Bs.of_blk hBw1 (u8s_zero _) (by simp) (Nat.le_refl _) (by simp only [maxLen]; omega) (Nat.le_refl _) (Nat.lt_succ_self _)
  refine wpF_run 1 [(5, (.slice (pA w.heap.size 0) sz sz))] (wpF_end (then_code (wpC_seq (wpC_seq (wpC_region (wpF_run 2 [(10, (vI 0)), (9, (vI sz))] (wpF_end (then_code (wpC_block ?_)))))))))
  refine wpC_loop (X := Nat) (fun i => [(10, (vI i))]) [6, 11, 12, 13, 14, 15, 16, 17, 18, 19, 20, 21, 22, 23, 24] (fun i w2 => i ≤ sz ∧ Blk w2 w.heap.size (u8s (pick sz (fun j => decide (sz - 1 - j < i)) fun j => UInt8.ofNat (v / 256 ^ (sz - 1 - j)))) 5 ∧ Ext w w2) (fun i => sz - i) 0 (by kernel_rfl) ⟨by omega, (by rw [pick_none _ _ _ (by intro j hj; simp)]; rw [← u8s_zero]; exact hBw1), hEw1⟩ ?_
  rintro i dw2 w2 ⟨hi, hBl, hEl⟩
  have hzl := hEl.size; have hll := hBl.lt
  refine wpC_seq (wpC_region (wpF_step (op_split (some 11) (decide (((i : Nat) : Int) < ((sz : Nat) : Int))) (fun hc11 => ?_) (fun hc11 => ?_))))
  · replace hc11 : i < sz := by have := of_d_t hc11; omega
    refine wpF_end (then_code (wpC_seq (wpC_true (wpC_skip (then_code (wpC_seq (wpC_block (wpC_seq (wpC_region ?_)))))))))
    refine wpF_run 2 [(6, (vI i)), (12, (vI i))] (wpF_end (then_code (wpC_region (wpF_run 2 [(14, (vI sz)), (13, (.slice (pA w.heap.size 0) sz sz))] (wpF_step (op_in (some 15) .i64 (IntKind.i64.wrap (((sz : Nat) : Int) - ((1 : Nat) : Int))) (sz - 1) (wrapS (by omega) (by omega) (by omega)) ?_))))))
    refine wpF_run 1 [(16, (vI i))] (wpF_step (op_in (some 17) .i64 (IntKind.i64.wrap (((sz - 1 : Nat) : Int) - ((i : Nat) : Int))) (sz - 1 - i) (wrapS (by omega) (by omega) (by omega)) ?_))
    refine wpF_run 2 [(19, (vI i)), (18, (vQ v))] (wpF_step (op_in (some 20) .i64 (IntKind.i64.wrap (((8 : Nat) : Int) * ((i : Nat) : Int))) (8 * i) (wrapS (by omega) (by omega) (by omega)) ?_))
    refine wpF_step (op_v (some 21) (do eqGuard .shr 28 (.tmp 18) (.tmp 20) (.int .u64 ((v : Nat) : Int)) (.int .i64 ((8 * i : Nat) : Int)); binOp .shr 28 (.int .u64 ((v : Nat) : Int)) (.int .i64 ((8 * i : Nat) : Int))) (vQ (v / 2 ^ (8 * i))) (run_shr (by show _ ≤ 64; omega)) ?_)
    refine wpF_step (op_in (some 22) .u8 (IntKind.u8.wrap ((v / 2 ^ (8 * i) : Nat) : Int)) ((v / 2 ^ (8 * i)) % 2 ^ 8) (wrapU rfl rfl) ?_)
    refine wpF_step (op_v (some 23) (Instr.indexAt 91 (.slice (pA w.heap.size 0) sz sz) (vI (sz - 1 - i))) (vP w.heap.size (0 + (sz - 1 - i) * 1)) (rn_ixs (E := 5) (sz := 1) (by omega)) ?_)
    refine wpF_step (op_store1 5 w.heap.size (0 + (sz - 1 - i) * 1) 5 (vB ((v / 2 ^ (8 * i)) % 2 ^ 8)) (u8s (pick sz (fun j => decide (sz - 1 - j < i)) fun j => UInt8.ofNat (v / 256 ^ (sz - 1 - j)))) hBl (by simp; omega) ?_)
    intro w3 hBw3 hCw3
    have hzw3 := hCw3.size
    rw [show ((u8s (pick sz (fun j => decide (sz - 1 - j < i)) fun j => UInt8.ofNat (v / 256 ^ (sz - 1 - j)))).set (0 + (sz - 1 - i) * 1) (vB ((v / 2 ^ (8 * i)) % 2 ^ 8)) : List Value) = u8s (pick sz (fun j => decide (sz - 1 - j < i + 1)) fun j => UInt8.ofNat (v / 256 ^ (sz - 1 - j))) from by have hx := pick_set sz (fun j => decide (sz - 1 - j < i)) (fun j => decide (sz - 1 - j < i + 1)) (fun j => UInt8.ofNat (v / 256 ^ (sz - 1 - j))) (sz - 1 - i) (UInt8.ofNat (v / 2 ^ (8 * i))) (by omega) (by first | (rw [two_pow_8]; congr 3; omega) | (rw [u8_mod, show sz - 1 - (sz - 1 - i) = i from by omega])) (by intro j hj; by_cases h1 : sz - 1 - j < i + 1 <;> by_cases h2 : sz - 1 - j < i <;> by_cases h3 : j = sz - 1 - i <;> simp [h1, h2, h3] <;> omega); rw [UInt8.toNat_ofNat'] at hx; first | (simpa only [Nat.zero_add, Nat.mul_one] using hx) | (rw [show v / 256 ^ i % 256 % 2 ^ 8 = v / 256 ^ i % 256 from by omega] at hx; simpa only [Nat.zero_add, Nat.mul_one] using hx)] at hBw3
    refine wpF_end (inBlock_normal (then_code (wpC_region (wpF_step (op_in (some 24) .i64 (IntKind.i64.wrap (((i : Nat) : Int) + ((1 : Nat) : Int))) (i + 1) (wrapS (by omega) (by omega) (by omega)) ?_)))))
    refine wpF_run 1 [(10, (vI (i + 1)))] (wpF_end (then_normal (endR_mk (i + 1) ?_ ?_)))
    · exact ⟨by omega, hBw3, (Ext.own hEl hCw3 (by omega))⟩
    · first | omega | (dsimp only; omega)
  · replace hc11 : ¬ (i < sz) := by have := of_d_f hc11; omega
    refine wpF_end (then_code (wpC_seq (wpC_false (wpC_exit (then_exit (then_exit (inBlock_exit (then_code (wpC_seq ?_)))))))))
    refine wpC_region (wpF_run 2 [(4, (.slice (pA w.heap.size 0) sz sz)), (25, (.slice (pA w.heap.size 0) sz sz))] (wpF_end (then_code (wpC_ret (body_rets (.slice (pA w.heap.size 0) sz sz) (⟨_, rfl, Bs.of_blk hBl ?_ (by simp) (by omega) (by simp only [maxLen]; omega) (by omega) (by omega), hEl⟩))))))
    rw [pick_all _ _ _ (by intro j hj; simp; omega)]; rfl

theorem c_rPut (v : Nat) (sz : Nat)  (w : World) (hp0 : sz ≤ 8) (hp1 : v < 2 ^ 64) :
    Calls Tryd.prog 69 #[(vQ v), (vI sz)] w (Ret fun r w' => ∃ a0, r = (.slice (pA a0 0) sz sz) ∧ w.heap.size ≤ a0 ∧ Blk w' a0 (u8s (be v sz)) 5 ∧ sz = (be v sz).length ∧ sz ≤ 1099511627776 ∧ Ext w w') := by
  refine calls_of (n := 24) (σ := [(0, (vQ v)), (1, (vI sz))]) Tryd.func69 rfl ?_
  refine wpC_seq (wpC_region (wpF_run 1 [(4, (.slice none 0 0))] (wpF_end (then_code (wpC_seq (wpC_region (wpF_run 1 [(7, (vI sz))] (wpF_step (op_make (some 8) 91 5 1 1 sz sz .i64 .i64 (vB 0) (by omega) (by omega) (by omega) ?_)))))))))
  rw [made_one _ rfl]
  intro w1 hBw1 hEw1
  have hzw1 := hEw1.size; have hlw1 := hBw1.lt
  have hSw1 : Bs w.heap.size (w.heap.size + 1) w1 (pA w.heap.size 0) sz sz (List.replicate sz 0) := Bs.of_blk hBw1 (u8s_zero _) (by simp) (Nat.le_refl _) (by simp only [maxLen]; omega) (Nat.le_refl _) (Nat.lt_succ_self _)
  refine wpF_run 1 [(5, (.slice (pA w.heap.size 0) sz sz))] (wpF_end (then_code (wpC_seq (wpC_seq (wpC_region (wpF_run 1 [(9, (vI sz))] (wpF_step (op_iz (some 10) .i64 (IntKind.i64.wrap (((sz : Nat) : Int) - ((1 : Nat) : Int))) ((sz : Int) - 1) (wrapS rfl (by omega) (by omega)) ?_))))))))
  refine wpF_run 1 [(6, (.int .i64 ((sz : Int) - 1)))] (wpF_end (then_code (wpC_block (wpC_loop (X := Nat) (fun i => [(0, (vQ (v / 256 ^ i))), (6, (.int .i64 ((sz : Int) - 1 - (i : Int))))]) [11, 12, 13, 14, 15, 16, 17, 18, 19, 20, 21, 22] (fun i w2 => i ≤ sz ∧ Blk w2 w.heap.size (u8s (pick sz (fun j => decide (sz - 1 - j < i)) fun j => UInt8.ofNat (v / 256 ^ (sz - 1 - j)))) 5 ∧ Ext w w2) (fun i => sz - i) 0 (by rw [Nat.pow_zero, Nat.div_one, show (sz : Int) - 1 - ((0 : Nat) : Int) = (sz : Int) - 1 from by omega]; kernel_rfl) ⟨by omega, (by rw [pick_none _ _ _ (by intro j hj; simp)]; rw [← u8s_zero]; exact hBw1), hEw1⟩ ?_))))
  rintro i dw2 w2 ⟨hi, hBl, hEl⟩
  have hzl := hEl.size; have hll := hBl.lt
  refine wpC_seq (wpC_seq (wpC_region (wpF_run 1 [(11, (.int .i64 ((sz : Int) - 1 - (i : Int))))] (wpF_step (op_split (some 12) (decide ((sz : Int) - 1 - (i : Int) ≥ ((0 : Nat) : Int))) (fun hc => ?_) (fun hc => ?_))))))
  · replace hc : i < sz := by have := of_d_t hc; omega
    have hidx : (sz : Int) - 1 - (i : Int) = ((sz - 1 - i : Nat) : Int) := by omega
    refine wpF_end (then_code (wpC_true (wpC_skip (then_code (wpC_seq (wpC_block (wpC_seq (wpC_region (wpF_run 3 [(17, (vQ (v / 256 ^ i))), (16, (.int .i64 ((sz : Int) - 1 - (i : Int)))), (15, (.slice (pA w.heap.size 0) sz sz))] ?_)))))))))
    refine wpF_step (op_in (some 18) .u64 (((v / 256 ^ i : Nat) : Int).tmod ((256 : Nat) : Int)) ((v / 256 ^ i) % 256) (tmodN _ _) ?_)
    refine wpF_step (op_in (some 19) .u8 (IntKind.u8.wrap (((v / 256 ^ i) % 256 : Nat) : Int)) (((v / 256 ^ i) % 256) % 2 ^ 8) (wrapU rfl rfl) ?_)
    refine wpF_step (op_v (some 20) (Instr.indexAt 91 (.slice (pA w.heap.size 0) sz sz) (.int .i64 ((sz : Int) - 1 - (i : Int)))) (vP w.heap.size (0 + (sz - 1 - i) * 1)) (by rw [hidx]; exact rn_ixs (E := 5) (sz := 1) (by omega)) ?_)
    refine wpF_step (op_store1 5 w.heap.size (0 + (sz - 1 - i) * 1) 5 (vB (((v / 256 ^ i) % 256) % 2 ^ 8)) (u8s (pick sz (fun j => decide (sz - 1 - j < i)) fun j => UInt8.ofNat (v / 256 ^ (sz - 1 - j)))) hBl (by simp; omega) ?_)
    intro w3 hBw3 hCw3
    have hzw3 := hCw3.size
    rw [show ((u8s (pick sz (fun j => decide (sz - 1 - j < i)) fun j => UInt8.ofNat (v / 256 ^ (sz - 1 - j)))).set (0 + (sz - 1 - i) * 1) (vB (((v / 256 ^ i) % 256) % 2 ^ 8)) : List Value) = u8s (pick sz (fun j => decide (sz - 1 - j < i + 1)) fun j => UInt8.ofNat (v / 256 ^ (sz - 1 - j))) from by have hx := pick_set sz (fun j => decide (sz - 1 - j < i)) (fun j => decide (sz - 1 - j < i + 1)) (fun j => UInt8.ofNat (v / 256 ^ (sz - 1 - j))) (sz - 1 - i) (UInt8.ofNat (v / 256 ^ i % 256)) (by omega) (by first | (rw [two_pow_8]; congr 3; omega) | (rw [u8_mod, show sz - 1 - (sz - 1 - i) = i from by omega])) (by intro j hj; by_cases h1 : sz - 1 - j < i + 1 <;> by_cases h2 : sz - 1 - j < i <;> by_cases h3 : j = sz - 1 - i <;> simp [h1, h2, h3] <;> omega); rw [UInt8.toNat_ofNat'] at hx; first | (simpa only [Nat.zero_add, Nat.mul_one] using hx) | (rw [show v / 256 ^ i % 256 % 2 ^ 8 = v / 256 ^ i % 256 from by omega] at hx; simpa only [Nat.zero_add, Nat.mul_one] using hx)] at hBw3
    refine wpF_end (then_code (wpC_region (wpF_run 1 [(21, (vQ (v / 256 ^ i)))] (wpF_step (op_in (some 22) .u64 (IntKind.u64.wrap ((((v / 256 ^ i : Nat) : Int)).tdiv ((256 : Nat) : Int))) (v / 256 ^ (i + 1)) (wrapUx rfl (by rw [tdivN, Nat.div_div_eq_div_mul, Nat.pow_succ]) (by show _ < 2 ^ 64; exact Nat.lt_of_le_of_lt (Nat.div_le_self _ _) hp1)) ?_)))))
    refine wpF_run 1 [(0, (vQ (v / 256 ^ (i + 1))))] (wpF_end (inBlock_normal (then_code (wpC_region (wpF_run 1 [(13, (.int .i64 ((sz : Int) - 1 - (i : Int))))] (wpF_step (op_iz (some 14) .i64 (IntKind.i64.wrap ((sz : Int) - 1 - (i : Int) - ((1 : Nat) : Int))) ((sz : Int) - 1 - ((i + 1 : Nat) : Int)) (wrapS (by omega) (by omega) (by omega)) ?_)))))))
    refine wpF_run 1 [(6, (.int .i64 ((sz : Int) - 1 - ((i + 1 : Nat) : Int))))] (wpF_end (then_normal (endR_mk (i + 1) ?_ ?_)))
    · exact ⟨by omega, hBw3, (Ext.own hEl hCw3 (by omega))⟩
    · first | omega | (dsimp only; omega)
  · replace hc : ¬ i < sz := by have := of_d_f hc; omega
    refine wpF_end (then_code (wpC_false (wpC_exit (then_exit (then_exit (inBlock_exit (then_code (wpC_seq (wpC_region ?_)))))))))
    refine wpF_run 2 [(4, (.slice (pA w.heap.size 0) sz sz)), (23, (.slice (pA w.heap.size 0) sz sz))] (wpF_end (then_code (wpC_ret (body_rets (.slice (pA w.heap.size 0) sz sz) ?_))))
    have hBf := hBl
    rw [pick_all _ _ _ (by intro j hj; simp; omega)] at hBf
    exact ⟨_, rfl, Nat.le_refl _, hBf, by simp, by omega, hEl⟩

theorem c_Put64 (v : Nat)  (w : World)  :
    Calls Tryd.prog 68 #[(vQ v)] w (Ret fun r w' => ∃ a0, r = (.slice a0 8 8) ∧ Bs w.heap.size w'.heap.size w' a0 8 8 (be v 8) ∧ Ext w w') := by
  refine calls_of (n := 5) (σ := [(0, (vQ v))]) Tryd.func68 rfl ?_
  refine wpC_seq (wpC_region (wpF_run 1 [(2, (.slice none 0 0))] (wpF_end (then_code (wpC_seq (wpC_region (wpF_run 1 [(3, (vQ v))] (wpF_step (op_call (some 4) (c_put v 8 _ (by omega)) ?_)))))))))
  rintro _ w1 ⟨a1, rfl, hFz1_0, hEw1⟩
  have hzw1 := hEw1.size
  exact wpF_run 1 [(2, (.slice a1 8 8))] (wpF_end (then_code (wpC_ret (body_rets (.slice a1 8 8) (⟨_, rfl, hFz1_0, hEw1⟩)))))

theorem c_Put32 (v : Nat)  (w : World) (hp0 : v < 2 ^ 32) :
    Calls Tryd.prog 44 #[(vW v)] w (Ret fun r w' => ∃ a0, r = (.slice a0 4 4) ∧ Bs w.heap.size w'.heap.size w' a0 4 4 (be v 4) ∧ Ext w w') := by
  refine calls_of (n := 6) (σ := [(0, (vW v))]) Tryd.func44 rfl ?_
  refine wpC_seq (wpC_region (wpF_run 1 [(2, (.slice none 0 0))] (wpF_end (then_code (wpC_seq (wpC_region (wpF_run 1 [(3, (vW v))] (wpF_step (op_in (some 4) .u64 (IntKind.u64.wrap ((v : Nat) : Int)) v (wrapUx rfl rfl (by show _ < 2 ^ 64; omega)) ?_)))))))))
  refine wpF_step (op_call (some 5) (c_put v 4 _ (by omega)) ?_)
  rintro _ w1 ⟨a1, rfl, hFz1_0, hEw1⟩
  have hzw1 := hEw1.size
  exact wpF_run 1 [(2, (.slice a1 4 4))] (wpF_end (then_code (wpC_ret (body_rets (.slice a1 4 4) (⟨_, rfl, hFz1_0, hEw1⟩)))))

theorem c_rPut64 (v : Nat)  (w : World) (hp0 : v < 2 ^ 64) :
    Calls Tryd.prog 55 #[(vQ v)] w (Ret fun r w' => ∃ a0, r = (.slice (pA a0 0) 8 8) ∧ w.heap.size ≤ a0 ∧ Blk w' a0 (u8s (be v 8)) 5 ∧ 8 = (be v 8).length ∧ 8 ≤ 1099511627776 ∧ Ext w w') := by
  refine calls_of (n := 5) (σ := [(0, (vQ v))]) Tryd.func55 rfl ?_
  refine wpC_seq (wpC_region (wpF_run 1 [(2, (.slice none 0 0))] (wpF_end (then_code (wpC_seq (wpC_region (wpF_run 1 [(3, (vQ v))] (wpF_step (op_call (some 4) (c_rPut v 8 _ (by omega) (by omega)) ?_)))))))))
  rintro _ w1 ⟨a1, rfl, hFz1_0, hFz1_1, hFz1_2, hFz1_3, hEw1⟩
  have hzw1 := hEw1.size
  have hla1 := hFz1_1.lt; have hna1 := hFz1_3
  have hSa1 : Bs a1 (a1 + 1) w1 (pA a1 0) 8 8 (be v 8) := Bs.of_blk hFz1_1 rfl hFz1_2 (Nat.le_refl _) (le_maxLen hna1) (Nat.le_refl _) (Nat.lt_succ_self _)
  exact wpF_run 1 [(2, (.slice (pA a1 0) 8 8))] (wpF_end (then_code (wpC_ret (body_rets (.slice (pA a1 0) 8 8) (⟨_, rfl, by omega, hFz1_1, by simp, by omega, hEw1⟩)))))

theorem c_rPut32 (v : Nat)  (w : World) (hp0 : v < 2 ^ 32) :
    Calls Tryd.prog 58 #[(vW v)] w (Ret fun r w' => ∃ a0, r = (.slice (pA a0 0) 4 4) ∧ w.heap.size ≤ a0 ∧ Blk w' a0 (u8s (be v 4)) 5 ∧ 4 = (be v 4).length ∧ 4 ≤ 1099511627776 ∧ Ext w w') := by
  refine calls_of (n := 6) (σ := [(0, (vW v))]) Tryd.func58 rfl ?_
  refine wpC_seq (wpC_region (wpF_run 1 [(2, (.slice none 0 0))] (wpF_end (then_code (wpC_seq (wpC_region (wpF_run 1 [(3, (vW v))] (wpF_step (op_in (some 4) .u64 (IntKind.u64.wrap ((v : Nat) : Int)) v (wrapUx rfl rfl (by show _ < 2 ^ 64; omega)) ?_)))))))))
  refine wpF_step (op_call (some 5) (c_rPut v 4 _ (by omega) (by omega)) ?_)
  rintro _ w1 ⟨a1, rfl, hFz1_0, hFz1_1, hFz1_2, hFz1_3, hEw1⟩
  have hzw1 := hEw1.size
  have hla1 := hFz1_1.lt; have hna1 := hFz1_3
  have hSa1 : Bs a1 (a1 + 1) w1 (pA a1 0) 4 4 (be v 4) := Bs.of_blk hFz1_1 rfl hFz1_2 (Nat.le_refl _) (le_maxLen hna1) (Nat.le_refl _) (Nat.lt_succ_self _)
  exact wpF_run 1 [(2, (.slice (pA a1 0) 4 4))] (wpF_end (then_code (wpC_ret (body_rets (.slice (pA a1 0) 4 4) (⟨_, rfl, by omega, hFz1_1, by simp, by omega, hEw1⟩)))))

theorem c_get {lo_l hi_l : Nat} {a_l : Option Addr} {n_l c_l : Nat} {l : List UInt8} (sz : Nat)  (w : World) (h_l : Bs lo_l hi_l w a_l n_l c_l l) (hp0 : sz ≤ 8) :
    Calls Tryd.prog 77 #[(.slice a_l n_l c_l), (vI sz)] w (Ret fun r w' => r = (.tuple #[(vQ (getV l sz)), (vI (getE l sz))]) ∧ w = w') := by
  refine calls_of (n := 32) (σ := [(0, (.slice a_l n_l c_l)), (1, (vI sz))]) Tryd.func77 rfl ?_
  replace h_l := h_l.now; have hle_l := h_l.le
  refine wpC_seq (wpC_region (wpF_run 2 [(5, (vI 0)), (4, (vQ 0))] (wpF_end (then_code (wpC_seq (wpC_block (wpC_seq (wpC_region (wpF_run 3 [(12, (vI sz)), (11, (vI n_l)), (10, (.slice a_l n_l c_l))] ?_)))))))))
  refine wpF_step (op_split (some 13) (decide (((n_l : Nat) : Int) < ((sz : Nat) : Int))) (fun hc13 => ?_) (fun hc13 => ?_))
  · replace hc13 : n_l < sz := by have := of_d_t hc13; omega
    refine wpF_run 1 [(9, vT)] (wpF_end (then_code (wpC_true (wpC_seq (wpC_region (wpF_run 2 [(5, (vI 6)), (4, (vQ 0))] (wpF_end (then_code (wpC_ret ?_)))))))))
    exact inBlock_ret (then_ret (body_rets (.tuple #[(vQ 0), (vI 6)]) (⟨by rw [getV_ne (by have := h_l.len_eq; omega), getE_short (by have := h_l.len_eq; omega)], rfl⟩)))
  · replace hc13 : ¬ (n_l < sz) := by have := of_d_f hc13; omega
    refine wpF_run 1 [(9, vF)] (wpF_end (then_code (wpC_false (wpC_seq (wpC_region (wpF_run 3 [(17, (vI sz)), (16, (vI n_l)), (15, (.slice a_l n_l c_l))] (wpF_step (op_split (some 18) (decide (((n_l : Nat) : Int) > ((sz : Nat) : Int))) (fun hc18 => ?_) (fun hc18 => ?_)))))))))
    · replace hc18 : n_l > sz := by have := of_d_t hc18; omega
      refine wpF_run 1 [(14, vT)] (wpF_end (then_code (wpC_true (wpC_seq (wpC_region (wpF_run 2 [(5, (vI 5)), (4, (vQ 0))] (wpF_end (then_code (wpC_ret ?_)))))))))
      exact inBlock_ret (then_ret (body_rets (.tuple #[(vQ 0), (vI 5)]) (⟨by rw [getV_ne (by have := h_l.len_eq; omega), getE_long (by have := h_l.len_eq; omega)], rfl⟩)))
    · replace hc18 : ¬ (n_l > sz) := by have := of_d_f hc18; omega
      refine wpF_run 1 [(14, vF)] (wpF_end (then_code (wpC_false (wpC_skip (inBlock_normal (then_code (wpC_seq (wpC_region (wpF_run 1 [(6, (vQ 0))] ?_)))))))))
      refine wpF_end (then_code (wpC_seq (wpC_seq (wpC_region (wpF_run 3 [(21, (vI 0)), (20, (vI n_l)), (19, (.slice a_l n_l c_l))] (wpF_end (then_code (wpC_block (wpC_loop (X := Nat) (fun i => [(6, (vQ (numB (l.take i)))), (21, (vI i))]) [8, 22, 23, 24, 25, 26, 27, 28, 29, 30] (fun i w1 => w = w1 ∧ i ≤ sz) (fun i => sz - i) 0 (by rw [List.take_zero]; kernel_rfl) ⟨rfl, by omega⟩ ?_)))))))))
      rintro i dw1 w1 ⟨rfl, hi⟩
      have hlen := h_l.len_eq
      refine wpC_seq (wpC_region (wpF_step (op_split (some 22) (decide (((i : Nat) : Int) < ((n_l : Nat) : Int))) (fun hc22 => ?_) (fun hc22 => ?_))))
      · replace hc22 : i < n_l := by have := of_d_t hc22; omega
        have hb1 := byt_lt l i
        have hb2 : numB (l.take i) * 256 + 255 < 2 ^ 64 := numB_take_lt (by omega)
        refine wpF_end (then_code (wpC_seq (wpC_true (wpC_skip (then_code (wpC_seq (wpC_block (wpC_seq (wpC_region ?_)))))))))
        obtain ⟨b1, o1, rfl⟩ := h_l.addr (by omega)
        refine wpF_step (op_v (some 23) (Instr.indexAt 91 (.slice (pA b1 o1) n_l c_l) (vI i)) (vP b1 (o1 + i * 1)) (rn_ixs (E := 5) (sz := 1) (by omega)) ?_)
        refine wpF_step (op_v (some 24) (Instr.loadAt 5 (vP b1 (o1 + i * 1))) (vB (byt l i)) (rn_ld (h_l.cell1 (by omega))) ?_)
        refine wpF_run 1 [(8, (vB (byt l i)))] (wpF_end (then_code (wpC_region (wpF_run 1 [(25, (vQ (numB (l.take i))))] (wpF_step (op_in (some 26) .u64 (IntKind.u64.wrap (((numB (l.take i) : Nat) : Int) * 2 ^ 8)) (numB (l.take i) * 256) ((shlU rfl).trans (by rw [Nat.mod_eq_of_lt (show _ < 2 ^ IntKind.u64.bits from by show _ < 2 ^ 64; omega)])) ?_))))))
        refine wpF_run 1 [(27, (vB (byt l i)))] (wpF_step (op_in (some 28) .u64 (IntKind.u64.wrap ((byt l i : Nat) : Int)) (byt l i) (wrapUx rfl rfl (by show _ < 2 ^ 64; omega)) ?_))
        refine wpF_step (op_in (some 29) .u64 ((IntKind.u64.wrap ((BitVec.ofInt IntKind.u64.bits ((numB (l.take i) * 256 : Nat) : Int) ||| BitVec.ofInt IntKind.u64.bits ((byt l i : Nat) : Int)).toNat : Int))) (numB (l.take (i + 1))) ((orU .u64 rfl (by show _ < 2 ^ 64; omega) (by show _ < 2 ^ 64; omega)).trans (by rw [or_byte _ _ hb1, numB_take (by omega)])) ?_)
        refine wpF_run 1 [(6, (vQ (numB (l.take (i + 1)))))] (wpF_end (inBlock_normal (then_code (wpC_region (wpF_step (op_in (some 30) .i64 (IntKind.i64.wrap (((i : Nat) : Int) + ((1 : Nat) : Int))) (i + 1) (wrapS (by omega) (by omega) (by omega)) ?_))))))
        refine wpF_run 1 [(21, (vI (i + 1)))] (wpF_end (then_normal (endR_mk (i + 1) ?_ ?_)))
        · exact ⟨rfl, by omega⟩
        · first | omega | (dsimp only; omega)
      · replace hc22 : ¬ (i < n_l) := by have := of_d_f hc22; omega
        refine wpF_end (then_code (wpC_seq (wpC_false (wpC_exit (then_exit (then_exit (inBlock_exit (then_code (wpC_seq ?_)))))))))
        exact wpC_region (wpF_run 3 [(5, (vI 0)), (4, (vQ (numB (l.take i)))), (31, (vQ (numB (l.take i))))] (wpF_end (then_code (wpC_ret (body_rets (.tuple #[(vQ (numB (l.take i))), (vI 0)]) (⟨by rw [getV_eq (by have := h_l.len_eq; omega), getE_eq (by have := h_l.len_eq; omega), List.take_of_length_le (by omega)], rfl⟩))))))

theorem c_rGet {lo_l hi_l : Nat} {a_l : Option Addr} {n_l c_l : Nat} {l : List UInt8} (sz : Nat)  (w : World) (h_l : Bs lo_l hi_l w a_l n_l c_l l) (hp0 : sz ≤ 8) :
    Calls Tryd.prog 70 #[(.slice a_l n_l c_l), (vI sz)] w (Ret fun r w' => r = (.tuple #[(vQ (getV l sz)), (vI (getE l sz))]) ∧ w = w') := by
  refine calls_of (n := 30) (σ := [(0, (.slice a_l n_l c_l)), (1, (vI sz))]) Tryd.func70 rfl ?_
  replace h_l := h_l.now; have hle_l := h_l.le
  refine wpC_seq (wpC_region (wpF_run 2 [(5, (vI 0)), (4, (vQ 0))] (wpF_end (then_code (wpC_seq (wpC_seq (wpC_region (wpF_run 3 [(10, (vI sz)), (9, (vI n_l)), (8, (.slice a_l n_l c_l))] (wpF_step (op_split (some 11) (decide (((n_l : Nat) : Int) < ((sz : Nat) : Int))) (fun hc11 => ?_) (fun hc11 => ?_)))))))))))
  · replace hc11 : n_l < sz := by have := of_d_t hc11; omega
    refine wpF_end (then_code (wpC_true (wpC_seq (wpC_region (wpF_run 2 [(5, (vI 6)), (4, (vQ 0))] (wpF_end (then_code (wpC_ret (then_ret ?_)))))))))
    exact body_rets (.tuple #[(vQ 0), (vI 6)]) (⟨by rw [getV_ne (by have := h_l.len_eq; omega), getE_short (by have := h_l.len_eq; omega)], rfl⟩)
  · replace hc11 : ¬ (n_l < sz) := by have := of_d_f hc11; omega
    refine wpF_end (then_code (wpC_false (wpC_skip (then_code (wpC_seq (wpC_seq (wpC_region (wpF_run 3 [(14, (vI sz)), (13, (vI n_l)), (12, (.slice a_l n_l c_l))] (wpF_step (op_split (some 15) (decide (((n_l : Nat) : Int) > ((sz : Nat) : Int))) (fun hc15 => ?_) (fun hc15 => ?_)))))))))))
    · replace hc15 : n_l > sz := by have := of_d_t hc15; omega
      refine wpF_end (then_code (wpC_true (wpC_seq (wpC_region (wpF_run 2 [(5, (vI 5)), (4, (vQ 0))] (wpF_end (then_code (wpC_ret (then_ret ?_)))))))))
      exact body_rets (.tuple #[(vQ 0), (vI 5)]) (⟨by rw [getV_ne (by have := h_l.len_eq; omega), getE_long (by have := h_l.len_eq; omega)], rfl⟩)
    · replace hc15 : ¬ (n_l > sz) := by have := of_d_f hc15; omega
      refine wpF_end (then_code (wpC_false (wpC_skip (then_code (wpC_seq (wpC_region (wpF_run 1 [(6, (vQ 0))] (wpF_end (then_code ?_)))))))))
      refine wpC_seq (wpC_seq (wpC_region (wpF_run 1 [(7, (vI 0))] (wpF_end (then_code (wpC_block (wpC_loop (X := Nat) (fun i => [(6, (vQ (numB (l.take i)))), (7, (vI i))]) [16, 17, 18, 19, 20, 21, 22, 23, 24, 25, 26, 27, 28] (fun i w1 => w = w1 ∧ i ≤ sz) (fun i => sz - i) 0 (by rw [List.take_zero]; kernel_rfl) ⟨rfl, by omega⟩ ?_)))))))
      rintro i dw1 w1 ⟨rfl, hi⟩
      have hlen := h_l.len_eq
      refine wpC_seq (wpC_seq (wpC_region (wpF_run 2 [(17, (vI sz)), (16, (vI i))] (wpF_step (op_split (some 18) (decide (((i : Nat) : Int) < ((sz : Nat) : Int))) (fun hc18 => ?_) (fun hc18 => ?_))))))
      · replace hc18 : i < sz := by have := of_d_t hc18; omega
        have hb1 := byt_lt l i
        have hb2 : numB (l.take i) * 256 + 255 < 2 ^ 64 := numB_take_lt (by omega)
        refine wpF_end (then_code (wpC_true (wpC_skip (then_code (wpC_seq (wpC_block (wpC_region (wpF_run 1 [(21, (vQ (numB (l.take i))))] (wpF_step (op_in (some 22) .u64 (IntKind.u64.wrap (((numB (l.take i) : Nat) : Int) * ((256 : Nat) : Int))) (numB (l.take i) * 256) (wrapUx rfl (by simp) (by show _ < 2 ^ 64; omega)) ?_))))))))))
        refine wpF_run 2 [(24, (vI i)), (23, (.slice a_l n_l c_l))] ?_
        obtain ⟨b1, o1, rfl⟩ := h_l.addr (by omega)
        refine wpF_step (op_v (some 25) (Instr.indexAt 91 (.slice (pA b1 o1) n_l c_l) (vI i)) (vP b1 (o1 + i * 1)) (rn_ixs (E := 5) (sz := 1) (by omega)) ?_)
        refine wpF_step (op_v (some 26) (Instr.loadAt 5 (vP b1 (o1 + i * 1))) (vB (byt l i)) (rn_ld (h_l.cell1 (by omega))) ?_)
        refine wpF_step (op_in (some 27) .u64 (IntKind.u64.wrap ((byt l i : Nat) : Int)) (byt l i) (wrapUx rfl rfl (by show _ < 2 ^ 64; omega)) ?_)
        refine wpF_step (op_in (some 28) .u64 (IntKind.u64.wrap (((numB (l.take i) * 256 : Nat) : Int) + ((byt l i : Nat) : Int))) (numB (l.take (i + 1))) (wrapUx rfl (by rw [numB_take (by omega)]; omega) (by rw [numB_take (by omega)]; show _ < 2 ^ 64; omega)) ?_)
        refine wpF_run 1 [(6, (vQ (numB (l.take (i + 1)))))] (wpF_end (inBlock_normal (then_code (wpC_region (wpF_run 1 [(19, (vI i))] (wpF_step (op_in (some 20) .i64 (IntKind.i64.wrap (((i : Nat) : Int) + ((1 : Nat) : Int))) (i + 1) (wrapS (by omega) (by omega) (by omega)) ?_)))))))
        refine wpF_run 1 [(7, (vI (i + 1)))] (wpF_end (then_normal (endR_mk (i + 1) ?_ ?_)))
        · exact ⟨rfl, by omega⟩
        · first | omega | (dsimp only; omega)
      · replace hc18 : ¬ (i < sz) := by have := of_d_f hc18; omega
        refine wpF_end (then_code (wpC_false (wpC_exit (then_exit (then_exit (inBlock_exit (then_code (wpC_seq (wpC_region ?_)))))))))
        exact wpF_run 3 [(5, (vI 0)), (4, (vQ (numB (l.take i)))), (29, (vQ (numB (l.take i))))] (wpF_end (then_code (wpC_ret (body_rets (.tuple #[(vQ (numB (l.take i))), (vI 0)]) (⟨by rw [getV_eq (by have := h_l.len_eq; omega), getE_eq (by have := h_l.len_eq; omega), List.take_of_length_le (by omega)], rfl⟩)))))

theorem c_Get32 {lo_l hi_l : Nat} {a_l : Option Addr} {n_l c_l : Nat} {l : List UInt8}  (w : World) (h_l : Bs lo_l hi_l w a_l n_l c_l l) :
    Calls Tryd.prog 75 #[(.slice a_l n_l c_l)] w (Ret fun r w' => r = (.tuple #[(vW (getV l 4)), (vI (getE l 4))]) ∧ w = w') := by
  refine calls_of (n := 14) (σ := [(0, (.slice a_l n_l c_l))]) Tryd.func75 rfl ?_
  replace h_l := h_l.now; have hle_l := h_l.le
  refine wpC_seq (wpC_region (wpF_run 2 [(3, (vI 0)), (2, (vW 0))] (wpF_end (then_code (wpC_seq (wpC_region (wpF_run 1 [(7, (.slice a_l n_l c_l))] (wpF_step (op_call (some 8) (c_get 4 _ h_l (by first | omega | decide)) ?_)))))))))
  rintro _ _ ⟨rfl, rfl⟩
  refine wpF_run 5 [(5, (vI (getE l 4))), (4, (vQ (getV l 4))), (10, (vI (getE l 4))), (9, (vQ (getV l 4))), (6, (.tuple #[(vQ (getV l 4)), (vI (getE l 4))]))] (wpF_end (then_code (wpC_seq (wpC_region (wpF_run 1 [(11, (vQ (getV l 4)))] (wpF_step (op_in (some 12) .u32 (IntKind.u32.wrap ((getV l 4 : Nat) : Int)) (getV l 4) (wrapUx rfl rfl (getV_lt l 4)) ?_)))))))
  exact wpF_run 3 [(3, (vI (getE l 4))), (2, (vW (getV l 4))), (13, (vI (getE l 4)))] (wpF_end (then_code (wpC_ret (body_rets (.tuple #[(vW (getV l 4)), (vI (getE l 4))]) (⟨rfl, rfl⟩)))))

end Go.Proofs.YthjplefmfjkhfaaDoor
