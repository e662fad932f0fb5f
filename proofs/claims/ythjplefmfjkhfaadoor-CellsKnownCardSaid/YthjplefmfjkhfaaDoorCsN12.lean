/- CsN12: what each function does, by its own code. No condition beyond those of each statement. -/
import Derived.Test.YthjplefmfjkhfaaDoorCsN5
import Derived.Test.YthjplefmfjkhfaaDoorCsNod3
import Derived.Test.YthjplefmfjkhfaaDoorCsH5
namespace Go.Proofs.YthjplefmfjkhfaaDoor
open Go Go.RowKit Go.Cs
set_option maxRecDepth 100000
set_option linter.all false
set_option linter.unusedVariables false

theorem c_NDigest (x : Nod)  (w : World) (hp0 : chkN x = 0) (hg0 : Gl 0 [vI 45, vI 33] w) (hg1 : Gl 1 (w8C iniA) w) (hg2 : Gl 2 (w64C kA) w) :
    Calls Tryd.prog 26 #[(vA (nodC x))] w (Ret fun r w' => r = (.tuple #[(vA (digC (shaD (nodB x)))), (vI 0)]) ∧ Ext w w') := by
  refine calls_of (n := 18) (σ := [(0, (vA (nodC x)))]) Tryd.func26 rfl ?_
  have hgl0 := hg0.lt
  have hgl1 := hg1.lt
  have hgl2 := hg2.lt
  refine wpC_seq (wpC_region (wpF_step (op_new (some 1) (Instr.box 78 (vA (nodC x))) (vP w.heap.size 0) (nodC x) 78 ?_)))
  intro w1 hBw1 hEw1
  have hzw1 := hEw1.size; have hlw1 := hBw1.lt
  refine wpF_step (op_new (some 2) (Instr.alloc 27 true (.tuple #[])) (vP w1.heap.size 0) (digC Dig.zero) 27 ?_)
  intro w2 hBw2 hEw2
  have hzw2 := hEw2.size; have hlw2 := hBw2.lt
  refine wpF_run 1 [(3, (vI 0))] (wpF_end (then_code (wpC_seq (wpC_region (wpF_step (op_v (some 7) (Instr.loadAt 78 (vP w.heap.size 0)) (vA (nodC x)) (rn_lda (vs := nodC x) ((hBw1.ext hEw2).all) (by rw [nodC_len]; kernel_rfl)) ?_))))))
  refine wpF_step (op_call (some 8) (c_NPut x _ (by assumption) (((hg0.ext hEw1)).ext hEw2)) ?_)
  rintro _ w3 ⟨a1, rfl, hFz1_0, hFz1_1, hFz1_2, hFz1_3, hEw3⟩
  have hzw3 := hEw3.size
  have hla1 := hFz1_1.lt; have hna1 := hFz1_3
  have hSa1 : Bs a1 (a1 + 1) w3 (pA a1 0) (nodL x) (nodL x) (nodB x) := Bs.of_blk hFz1_1 rfl hFz1_2 (Nat.le_refl _) (le_maxLen hna1) (Nat.le_refl _) (Nat.lt_succ_self _)
  refine wpF_run 5 [(5, (vI 0)), (4, (.slice (pA a1 0) (nodL x) (nodL x))), (10, (vI 0)), (9, (.slice (pA a1 0) (nodL x) (nodL x))), (6, (.tuple #[(.slice (pA a1 0) (nodL x) (nodL x)), (vI 0)]))] (wpF_end (then_code (wpC_seq (wpC_seq (wpC_region (wpF_run 1 [(11, (vI 0))] (wpF_step (op_b (some 12) (((0 : Nat) : Int) != ((0 : Nat) : Int)) false (cmpNeF (by omega)) ?_))))))))
  refine wpF_end (then_code (wpC_false (wpC_skip (then_code (wpC_seq (wpC_region (wpF_run 1 [(15, (.slice (pA a1 0) (nodL x) (nodL x)))] (wpF_step (op_new (some 16) (Instr.buildSlice 110 1 #[(0, (.slice (pA a1 0) (nodL x) (nodL x)))]) (.slice (pA w3.heap.size 0) 1 1) [(.slice (pA a1 0) (nodL x) (nodL x))] 91 ?_)))))))))
  intro w4 hBw4 hEw4
  have hzw4 := hEw4.size; have hlw4 := hBw4.lt
  have hSw4 : Ps 0 w4.heap.size w4 (pA w3.heap.size 0) 1 1 [(.slice (pA a1 0) (nodL x) (nodL x))] [nodB x] := Ps.of_new hBw4 rfl (by decide) (Parts.cons (Part.at (hSa1.ext hEw4)) Parts.nil)
  have hK1 := (((((((hg1.ext hEw1)).ext hEw2)).ext hEw3)).ext hEw4)
  have hK2 := (((((((hg2.ext hEw1)).ext hEw2)).ext hEw3)).ext hEw4)
  refine wpF_step (op_call (some 17) (c_dof _ hSw4 (by simp [sumLen, nodB_L]; unfold nodL; split <;> decide) hK1 hK2) ?_)
  rintro _ w5 ⟨rfl, hEw5⟩
  have hzw5 := hEw5.size
  rw [show shaD ([nodB x]).flatten = shaD (nodB x) from by simp]
  have hK3 := (((((hBw2.ext hEw3)).ext hEw4)).ext hEw5)
  refine wpF_step (op_store 27 w1.heap.size 0 27 (vA (digC (shaD (nodB x)))) (digC Dig.zero) (digC (shaD (nodB x))) hK3 (by rw [digC_len]; kernel_rfl) (by first | (simp; done) | (simp; omega)) (digC_one _) ?_)
  have hK4 := (((((hBw2.ext hEw3)).ext hEw4)).ext hEw5)
  intro w6 hBw6 hCw6
  have hzw6 := hCw6.size
  rw [setFrom_all _ _ (by simp)] at hBw6
  refine wpF_run 1 [(3, (vI 0))] (wpF_end (then_code (wpC_ret (body_ret2 (show resVal Tryd.prog 18 _ _ (.cell 2 27) (vA (digC (shaD (nodB x)))) from ⟨⟨w1.heap.size, 0, none⟩, (by kernel_rfl), run_loadVar_agg (T := 27) (vs := digC (shaD (nodB x))) (hBw6).all (by rw [digC_len]; kernel_rfl)⟩) (show resVal Tryd.prog 18 _ _ (.tmp 3) (vI 0) by (show _ = _; kernel_rfl)) ?_))))
  have hX1 : Ext w w6 := (Ext.own ((((hEw1.trans hEw2).trans hEw3).trans hEw4).trans hEw5) hCw6 (by omega))
  exact ⟨rfl, hX1⟩

theorem c_rNDigest (x : Nod)  (w : World)  :
    Calls Tryd.prog 28 #[(vA (nodC x))] w (Ret fun r w' => r = (vA (digC (shaD (nodB x)))) ∧ Ext w w') := by
  refine calls_of (n := 6) (σ := [(0, (vA (nodC x)))]) Tryd.func28 rfl ?_
  refine wpC_seq (wpC_region (wpF_step (op_new (some 1) (Instr.box 78 (vA (nodC x))) (vP w.heap.size 0) (nodC x) 78 ?_)))
  intro w1 hBw1 hEw1
  have hzw1 := hEw1.size; have hlw1 := hBw1.lt
  refine wpF_step (op_new (some 2) (Instr.alloc 27 true (.tuple #[])) (vP w1.heap.size 0) (digC Dig.zero) 27 ?_)
  intro w2 hBw2 hEw2
  have hzw2 := hEw2.size; have hlw2 := hBw2.lt
  refine wpF_end (then_code (wpC_seq (wpC_region (wpF_step (op_v (some 3) (Instr.loadAt 78 (vP w.heap.size 0)) (vA (nodC x)) (rn_lda (vs := nodC x) ((hBw1.ext hEw2).all) (by rw [nodC_len]; kernel_rfl)) ?_)))))
  refine wpF_step (op_call (some 4) (c_rNBytes x _) ?_)
  rintro _ w3 ⟨a1, ca1, rfl, hFz1_0, hEw3⟩
  have hzw3 := hEw3.size
  have hlea1 := hFz1_0.le
  have hba1 := hFz1_0.bs
  refine wpF_step (op_call (some 5) (c_rsum _ hba1 (by unfold nodL; split <;> decide)) ?_)
  rintro _ w4 ⟨rfl, hEw4⟩
  have hzw4 := hEw4.size
  refine wpF_step (op_store 27 w1.heap.size 0 27 (vA (digC (shaD (nodB x)))) (digC Dig.zero) (digC (shaD (nodB x))) (((hBw2.ext hEw3)).ext hEw4) (by rw [digC_len]; kernel_rfl) (by first | (simp; done) | (simp; omega)) (digC_one _) ?_)
  intro w5 hBw5 hCw5
  have hzw5 := hCw5.size
  rw [setFrom_all _ _ (by simp)] at hBw5
  refine wpF_end (then_code (wpC_ret (body_ret1 (show resVal Tryd.prog 6 _ _ (.cell 2 27) (vA (digC (shaD (nodB x)))) from ⟨⟨w1.heap.size, 0, none⟩, (by kernel_rfl), run_loadVar_agg (T := 27) (vs := digC (shaD (nodB x))) (hBw5).all (by rw [digC_len]; kernel_rfl)⟩) ?_)))
  have hX1 : Ext w w5 := (Ext.own (((hEw1.trans hEw2).trans hEw3).trans hEw4) hCw5 (by omega))
  exact ⟨rfl, hX1⟩

end Go.Proofs.YthjplefmfjkhfaaDoor
