/- CsN2: what each function does, by its own code. No condition beyond those of each statement. -/
import Derived.Test.YthjplefmfjkhfaaDoorCsN1
namespace Go.Proofs.YthjplefmfjkhfaaDoor
open Go Go.RowKit Go.Cs
set_option maxRecDepth 100000
set_option linter.all false
set_option linter.unusedVariables false

theorem c_Empty (a : Nat) (b : Nat)  (w : World) (hp0 : a < 256) (hp1 : b < 2 ^ 32) :
    Calls Tryd.prog 27 #[(vB a), (vW b)] w (Ret fun r w' => r = (vA (nodC (Nod.mt a b))) ∧ Ext w w') := by
  refine calls_of (n := 8) (σ := [(0, (vB a)), (1, (vW b))]) Tryd.func27 rfl ?_
  refine wpC_seq (wpC_region (wpF_step (op_new (some 4) (Instr.alloc 78 true (.tuple #[])) (vP w.heap.size 0) (nodC Nod.zero) 78 ?_)))
  intro w1 hBw1 hEw1
  have hzw1 := hEw1.size; have hlw1 := hBw1.lt
  refine wpF_end (then_code (wpC_seq (wpC_region (wpF_run 2 [(6, (vW b)), (5, (vB a))] (wpF_step (op_v (some 7) (Instr.build 78 #[(0, (vB a)), (1, (vW b))]) (vA (nodC (Nod.mt a b))) ((run_build_nod a b (by omega) (by omega)).trans (congrArg (fun z : Nod => Result.ok (Value.agg (nodC z).toArray) _) (show (Nod.emp a b (by omega) (by omega) : Nod) = Nod.mt a b from Nod.mt_eq _ _))) ?_))))))
  refine wpF_step (op_store 78 w.heap.size 0 78 (vA (nodC (Nod.mt a b))) (nodC Nod.zero) (nodC (Nod.mt a b)) hBw1 (by rw [nodC_len]; kernel_rfl) (by first | (simp; done) | (simp; omega)) (nodC_one _) ?_)
  intro w2 hBw2 hCw2
  have hzw2 := hCw2.size
  rw [setFrom_all _ _ (by simp)] at hBw2
  exact wpF_end (then_code (wpC_ret (body_ret1 (show resVal Tryd.prog 8 _ _ (.cell 4 78) (vA (nodC (Nod.mt a b))) from ⟨⟨w.heap.size, 0, none⟩, (by kernel_rfl), run_loadVar_agg (T := 78) (vs := nodC (Nod.mt a b)) (hBw2).all (by rw [nodC_len]; kernel_rfl)⟩) (⟨rfl, (Ext.own hEw1 hCw2 (by omega))⟩))))

theorem c_mkD (sd : Nat)  (w : World) (hp0 : sd < 256) :
    Calls Tryd.prog 31 #[(vB sd)] w (Ret fun r w' => r = (vA (digC (mkD sd))) ∧ Ext w w') := by
  refine calls_of (n := 17) (σ := [(0, (vB sd))]) Tryd.func31 rfl ?_
  refine wpC_seq (wpC_region (wpF_step (op_new (some 2) (Instr.alloc 27 true (.tuple #[])) (vP w.heap.size 0) (digC Dig.zero) 27 ?_)))
  intro w1 hBw1 hEw1
  have hzw1 := hEw1.size; have hlw1 := hBw1.lt
  refine wpF_end (then_code (wpC_seq (wpC_region (wpF_step (op_new (some 3) (Instr.alloc 27 true (.tuple #[])) (vP w1.heap.size 0) (digC Dig.zero) 27 ?_)))))
  intro w2 hBw2 hEw2
  have hzw2 := hEw2.size; have hlw2 := hBw2.lt
  refine wpF_end (then_code (wpC_seq (wpC_seq (wpC_region (wpF_run 1 [(4, (vI 0))] (wpF_end (then_code (wpC_block (wpC_loop (X := Nat) (fun i => [(4, (vI i))]) [5, 6, 7, 8, 9, 10, 11, 12, 13, 14, 15] (fun i w3 => i ≤ 32 ∧ Blk w3 w1.heap.size (u8s (pick 32 (fun j => decide (j < i)) (fun j => UInt8.ofNat (sd + 7 * j)))) 27 ∧ Ext w1 w3) (fun i => 32 - i) 0 (by kernel_rfl) ⟨by omega, (by rw [pick_none _ _ _ (by intro j hj; simp)]; exact hBw2), hEw2⟩ ?_)))))))))
  rintro i dw3 w3 ⟨hi, hBl, hEl⟩
  have hzl := hEl.size; have hll := hBl.lt
  refine wpC_seq (wpC_seq (wpC_region (wpF_run 1 [(5, (vI i))] (wpF_step (op_split (some 6) (decide (((i : Nat) : Int) < ((32 : Nat) : Int))) (fun hc6 => ?_) (fun hc6 => ?_))))))
  · replace hc6 : i < 32 := by have := of_d_t hc6; omega
    refine wpF_end (then_code (wpC_true (wpC_skip (then_code (wpC_seq (wpC_block (wpC_region (wpF_run 3 [(11, (vI i)), (10, (vB sd)), (9, (vI i))] (wpF_step (op_in (some 12) .i64 (IntKind.i64.wrap (((7 : Nat) : Int) * ((i : Nat) : Int))) (7 * i) (wrapS (by omega) (by omega) (by omega)) ?_))))))))))
    refine wpF_step (op_in (some 13) .u8 (IntKind.u8.wrap ((7 * i : Nat) : Int)) ((7 * i) % 2 ^ 8) (wrapU rfl rfl) ?_)
    refine wpF_step (op_in (some 14) .u8 (IntKind.u8.wrap (((sd : Nat) : Int) + (((7 * i) % 2 ^ 8 : Nat) : Int))) ((sd + (7 * i) % 2 ^ 8) % 2 ^ 8) (wrapU rfl (by simp)) ?_)
    refine wpF_step (op_v (some 15) (Instr.indexAt 27 (vP w1.heap.size 0) (vI i)) (vP w1.heap.size (0 + i * 1)) (rn_ixa (E := 5) (sz := 1) (m := 32) (by omega)) ?_)
    refine wpF_step (op_store1 5 w1.heap.size (0 + i * 1) 27 (vB ((sd + (7 * i) % 2 ^ 8) % 2 ^ 8)) (u8s (pick 32 (fun j => decide (j < i)) (fun j => UInt8.ofNat (sd + 7 * j)))) hBl (by simp; omega) ?_)
    intro w4 hBw4 hCw4
    have hzw4 := hCw4.size
    rw [show ((u8s (pick 32 (fun j => decide (j < i)) (fun j => UInt8.ofNat (sd + 7 * j)))).set (0 + i * 1) (vB ((sd + (7 * i) % 2 ^ 8) % 2 ^ 8)) : List Value) = u8s (pick 32 (fun j => decide (j < i + 1)) (fun j => UInt8.ofNat (sd + 7 * j))) from by have hx := pick_set 32 (fun j => decide (j < i)) (fun j => decide (j < i + 1)) (fun j => UInt8.ofNat (sd + 7 * j)) i (UInt8.ofNat (sd + 7 * i)) (by omega) rfl (by intro j hj; by_cases h1 : j < i + 1 <;> by_cases h2 : j < i <;> by_cases h3 : j = i <;> simp [h1, h2, h3] <;> omega); rw [UInt8.toNat_ofNat'] at hx; simpa only [Nat.zero_add, Nat.mul_one, show (sd + 7 * i % 2 ^ 8) % 2 ^ 8 = (sd + 7 * i) % 2 ^ 8 from by omega] using hx] at hBw4
    refine wpF_end (inBlock_normal (then_code (wpC_region (wpF_run 1 [(7, (vI i))] (wpF_step (op_in (some 8) .i64 (IntKind.i64.wrap (((i : Nat) : Int) + ((1 : Nat) : Int))) (i + 1) (wrapS (by omega) (by omega) (by omega)) ?_))))))
    refine wpF_run 1 [(4, (vI (i + 1)))] (wpF_end (then_normal (endR_mk (i + 1) ?_ ?_)))
    · exact ⟨by omega, hBw4, (Ext.own hEl hCw4 (by omega))⟩
    · first | omega | (dsimp only; omega)
  · replace hc6 : ¬ (i < 32) := by have := of_d_f hc6; omega
    refine wpF_end (then_code (wpC_false (wpC_exit (then_exit (then_exit (inBlock_exit (then_code (wpC_seq (wpC_region ?_)))))))))
    obtain rfl : i = 32 := by omega
    have hBd : Blk w3 w1.heap.size (digC (mkD sd)) 27 := by have hq := hBl; rw [pick_all _ _ _ (by intro j hj; simpa using hj)] at hq; exact hq
    refine wpF_step (op_v (some 16) (Instr.loadAt 27 (vP w1.heap.size 0)) (vA (digC (mkD sd))) (rn_lda (vs := digC (mkD sd)) hBd.all (by rw [digC_len]; kernel_rfl)) ?_)
    refine wpF_step (op_store 27 w.heap.size 0 27 (vA (digC (mkD sd))) (digC Dig.zero) (digC (mkD sd)) (hBw1.ext hEl) (by rw [digC_len]; kernel_rfl) (by first | (simp; done) | (simp; omega)) (digC_one _) ?_)
    intro w5 hBw5 hCw5
    have hzw5 := hCw5.size
    rw [setFrom_all _ _ (by simp)] at hBw5
    exact wpF_end (then_code (wpC_ret (body_ret1 (show resVal Tryd.prog 17 _ _ (.cell 2 27) (vA (digC (mkD sd))) from ⟨⟨w.heap.size, 0, none⟩, (by kernel_rfl), run_loadVar_agg (T := 27) (vs := digC (mkD sd)) (hBw5).all (by rw [digC_len]; kernel_rfl)⟩) (⟨rfl, (Ext.own (hEw1.trans hEl) hCw5 (by omega))⟩))))

end Go.Proofs.YthjplefmfjkhfaaDoor
