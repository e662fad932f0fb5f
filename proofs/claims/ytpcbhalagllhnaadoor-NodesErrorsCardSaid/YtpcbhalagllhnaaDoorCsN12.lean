/- CsN12: what each function does, by its own code. No condition beyond those of each statement. -/
import Derived.Test.YtpcbhalagllhnaaDoorCsN7
import Derived.Test.YtpcbhalagllhnaaDoorCsNod3
import Derived.Test.YtpcbhalagllhnaaDoorCsH5
namespace Go.Proofs.YtpcbhalagllhnaaDoor
open Go Go.RowKit Go.Cs
set_option maxRecDepth 100000
set_option linter.all false
set_option linter.unusedVariables false

theorem c_NDigest (x : Nod)  (w : World) (hp0 : chkN x = 0) (hg0 : Gl 0 [vI 45, vI 33] w) (hg1 : Gl 1 (w8C iniA) w) (hg2 : Gl 2 (w64C kA) w) :
    Calls Tryd.prog 25 #[(vA (nodC x))] w (Ret fun r w' => r = (.tuple #[(vA (digC (shaD (nodB x)))), (vI 0)]) ∧ Ext w w') := by
  refine calls_of (n := 18) (σ := [(0, (vA (nodC x)))]) Tryd.func25 rfl ?_
  have hgl0 := hg0.lt
  have hgl1 := hg1.lt
  have hgl2 := hg2.lt
  refine wpC_seq (wpC_region (wpF_step (op_new (some 1) (Instr.box 41 (vA (nodC x))) (vP w.heap.size 0) (nodC x) 41 ?_)))
  intro w1 hBw1 hEw1
  have hzw1 := hEw1.size; have hlw1 := hBw1.lt
  refine wpF_step (op_new (some 2) (Instr.alloc 33 true (.tuple #[])) (vP w1.heap.size 0) (digC Dig.zero) 33 ?_)
  intro w2 hBw2 hEw2
  have hzw2 := hEw2.size; have hlw2 := hBw2.lt
  refine wpF_run 1 [(3, (vI 0))] (wpF_end (then_code (wpC_seq (wpC_region (wpF_step (op_v (some 7) (Instr.loadAt 41 (vP w.heap.size 0)) (vA (nodC x)) (rn_lda (vs := nodC x) ((hBw1.ext hEw2).all) (by rw [nodC_len]; kernel_rfl)) ?_))))))
  refine wpF_step (op_call (some 8) (c_NPut x _ (by assumption) (((hg0.ext hEw1)).ext hEw2)) ?_)
  rintro _ w3 ⟨a1, rfl, hFz1_0, hFz1_1, hFz1_2, hFz1_3, hEw3⟩
  have hzw3 := hEw3.size
  have hla1 := hFz1_1.lt; have hna1 := hFz1_3
  have hSa1 : Bs a1 (a1 + 1) w3 (pA a1 0) (nodL x) (nodL x) (nodB x) := Bs.of_blk hFz1_1 rfl hFz1_2 (Nat.le_refl _) (le_maxLen hna1) (Nat.le_refl _) (Nat.lt_succ_self _)
  refine wpF_run 5 [(5, (vI 0)), (4, (.slice (pA a1 0) (nodL x) (nodL x))), (10, (vI 0)), (9, (.slice (pA a1 0) (nodL x) (nodL x))), (6, (.tuple #[(.slice (pA a1 0) (nodL x) (nodL x)), (vI 0)]))] (wpF_end (then_code (wpC_seq (wpC_seq (wpC_region (wpF_run 1 [(11, (vI 0))] (wpF_step (op_b (some 12) (((0 : Nat) : Int) != ((0 : Nat) : Int)) false (cmpNeF (by omega)) ?_))))))))
  refine wpF_end (then_code (wpC_false (wpC_skip (then_code (wpC_seq (wpC_region (wpF_run 1 [(15, (.slice (pA a1 0) (nodL x) (nodL x)))] (wpF_step (op_new (some 16) (Instr.buildSlice 121 1 #[(0, (.slice (pA a1 0) (nodL x) (nodL x)))]) (.slice (pA w3.heap.size 0) 1 1) [(.slice (pA a1 0) (nodL x) (nodL x))] 44 ?_)))))))))
  intro w4 hBw4 hEw4
  have hzw4 := hEw4.size; have hlw4 := hBw4.lt
  have hSw4 : Ps 0 w4.heap.size w4 (pA w3.heap.size 0) 1 1 [(.slice (pA a1 0) (nodL x) (nodL x))] [nodB x] := Ps.of_new hBw4 rfl (by decide) (Parts.cons (Part.at (hSa1.ext hEw4)) Parts.nil)
  have hK1 := (((((((hg1.ext hEw1)).ext hEw2)).ext hEw3)).ext hEw4)
  have hK2 := (((((((hg2.ext hEw1)).ext hEw2)).ext hEw3)).ext hEw4)
  refine wpF_step (op_call (some 17) (c_dof _ hSw4 (by simp [sumLen, nodB_L]; unfold nodL; split <;> decide) hK1 hK2) ?_)
  rintro _ w5 ⟨rfl, hEw5⟩
  have hzw5 := hEw5.size
  rw [show shaD ([nodB x]).flatten = shaD (nodB x) from by simp]
  have hK3 := (((((hBw2.ext hEw3)).ext hEw4)).ext hEw5)
  refine wpF_step (op_store 33 w1.heap.size 0 33 (vA (digC (shaD (nodB x)))) (digC Dig.zero) (digC (shaD (nodB x))) hK3 (by rw [digC_len]; kernel_rfl) (by first | (simp; done) | (simp; omega)) (digC_one _) ?_)
  have hK4 := (((((hBw2.ext hEw3)).ext hEw4)).ext hEw5)
  intro w6 hBw6 hCw6
  have hzw6 := hCw6.size
  rw [setFrom_all _ _ (by simp)] at hBw6
  refine wpF_run 1 [(3, (vI 0))] (wpF_end (then_code (wpC_ret (body_ret2 (show resVal Tryd.prog 18 _ _ (.cell 2 33) (vA (digC (shaD (nodB x)))) from ⟨⟨w1.heap.size, 0, none⟩, (by kernel_rfl), run_loadVar_agg (T := 33) (vs := digC (shaD (nodB x))) (hBw6).all (by rw [digC_len]; kernel_rfl)⟩) (show resVal Tryd.prog 18 _ _ (.tmp 3) (vI 0) by (show _ = _; kernel_rfl)) ?_))))
  have hX1 : Ext w w6 := (Ext.own ((((hEw1.trans hEw2).trans hEw3).trans hEw4).trans hEw5) hCw6 (by omega))
  exact ⟨rfl, hX1⟩

theorem c_NDigestBad (x : Nod)  (w : World) (hp0 : chkN x = 1) :
    Calls Tryd.prog 25 #[(vA (nodC x))] w (Ret fun r w' => r = (.tuple #[(vA (digC Dig.zero)), (vI 1)]) ∧ Ext w w') := by
  refine calls_of (n := 18) (σ := [(0, (vA (nodC x)))]) Tryd.func25 rfl ?_
  refine wpC_seq (wpC_region (wpF_step (op_new (some 1) (Instr.box 41 (vA (nodC x))) (vP w.heap.size 0) (nodC x) 41 ?_)))
  intro w1 hBw1 hEw1
  have hzw1 := hEw1.size; have hlw1 := hBw1.lt
  refine wpF_step (op_new (some 2) (Instr.alloc 33 true (.tuple #[])) (vP w1.heap.size 0) (digC Dig.zero) 33 ?_)
  intro w2 hBw2 hEw2
  have hzw2 := hEw2.size; have hlw2 := hBw2.lt
  refine wpF_run 1 [(3, (vI 0))] (wpF_end (then_code (wpC_seq (wpC_region (wpF_step (op_v (some 7) (Instr.loadAt 41 (vP w.heap.size 0)) (vA (nodC x)) (rn_lda (vs := nodC x) ((hBw1.ext hEw2).all) (by rw [nodC_len]; kernel_rfl)) ?_))))))
  refine wpF_step (op_call (some 8) (c_NPutBad x _ (by assumption)) ?_)
  rintro _ w3 ⟨rfl, hEw3⟩
  have hzw3 := hEw3.size
  refine wpF_run 5 [(5, (vI 1)), (4, (.slice none 0 0)), (10, (vI 1)), (9, (.slice none 0 0)), (6, (.tuple #[(.slice none 0 0), (vI 1)]))] (wpF_end (then_code (wpC_seq (wpC_seq (wpC_region (wpF_run 2 [(12, vT), (11, (vI 1))] (wpF_end (then_code (wpC_true ?_)))))))))
  refine wpC_seq (wpC_region (wpF_run 2 [(14, (vI 1)), (13, (vA (digC Dig.zero)))] (wpF_step (op_store 33 w1.heap.size 0 33 (vA (digC Dig.zero)) (digC Dig.zero) (digC Dig.zero) (hBw2.ext hEw3) (by rw [digC_len]; kernel_rfl) (by first | (simp; done) | (simp; omega)) (digC_one _) ?_))))
  intro w4 hBw4 hCw4
  have hzw4 := hCw4.size
  rw [setFrom_all _ _ (by simp)] at hBw4
  refine wpF_run 1 [(3, (vI 1))] (wpF_end (then_code (wpC_ret (then_ret (body_ret2 (show resVal Tryd.prog 18 _ _ (.cell 2 33) (vA (digC Dig.zero)) from ⟨⟨w1.heap.size, 0, none⟩, (by kernel_rfl), run_loadVar_agg (T := 33) (vs := digC Dig.zero) (hBw4).all (by rw [digC_len]; kernel_rfl)⟩) (show resVal Tryd.prog 18 _ _ (.tmp 3) (vI 1) by (show _ = _; kernel_rfl)) ?_)))))
  have hX1 : Ext w w4 := (Ext.own ((hEw1.trans hEw2).trans hEw3) hCw4 (by omega))
  exact ⟨rfl, hX1⟩

theorem c_rNDigest (x : Nod)  (w : World)  :
    Calls Tryd.prog 26 #[(vA (nodC x))] w (Ret fun r w' => r = (vA (digC (shaD (nodB x)))) ∧ Ext w w') := by
  refine calls_of (n := 6) (σ := [(0, (vA (nodC x)))]) Tryd.func26 rfl ?_
  refine wpC_seq (wpC_region (wpF_step (op_new (some 1) (Instr.box 41 (vA (nodC x))) (vP w.heap.size 0) (nodC x) 41 ?_)))
  intro w1 hBw1 hEw1
  have hzw1 := hEw1.size; have hlw1 := hBw1.lt
  refine wpF_step (op_new (some 2) (Instr.alloc 33 true (.tuple #[])) (vP w1.heap.size 0) (digC Dig.zero) 33 ?_)
  intro w2 hBw2 hEw2
  have hzw2 := hEw2.size; have hlw2 := hBw2.lt
  refine wpF_end (then_code (wpC_seq (wpC_region (wpF_step (op_v (some 3) (Instr.loadAt 41 (vP w.heap.size 0)) (vA (nodC x)) (rn_lda (vs := nodC x) ((hBw1.ext hEw2).all) (by rw [nodC_len]; kernel_rfl)) ?_)))))
  refine wpF_step (op_call (some 4) (c_rNBytes x _) ?_)
  rintro _ w3 ⟨a1, ca1, rfl, hFz1_0, hEw3⟩
  have hzw3 := hEw3.size
  have hlea1 := hFz1_0.le
  have hba1 := hFz1_0.bs
  refine wpF_step (op_call (some 5) (c_rsum _ hba1 (by unfold nodL; split <;> decide)) ?_)
  rintro _ w4 ⟨rfl, hEw4⟩
  have hzw4 := hEw4.size
  refine wpF_step (op_store 33 w1.heap.size 0 33 (vA (digC (shaD (nodB x)))) (digC Dig.zero) (digC (shaD (nodB x))) (((hBw2.ext hEw3)).ext hEw4) (by rw [digC_len]; kernel_rfl) (by first | (simp; done) | (simp; omega)) (digC_one _) ?_)
  intro w5 hBw5 hCw5
  have hzw5 := hCw5.size
  rw [setFrom_all _ _ (by simp)] at hBw5
  refine wpF_end (then_code (wpC_ret (body_ret1 (show resVal Tryd.prog 6 _ _ (.cell 2 33) (vA (digC (shaD (nodB x)))) from ⟨⟨w1.heap.size, 0, none⟩, (by kernel_rfl), run_loadVar_agg (T := 33) (vs := digC (shaD (nodB x))) (hBw5).all (by rw [digC_len]; kernel_rfl)⟩) ?_)))
  have hX1 : Ext w w5 := (Ext.own (((hEw1.trans hEw2).trans hEw3).trans hEw4) hCw5 (by omega))
  exact ⟨rfl, hX1⟩

theorem c_NodesDigest (x : NN) (y : NN)  (w : World) (hg0 : Gl 0 [vI 45, vI 33] w) (hg1 : Gl 1 (w8C iniA) w) (hg2 : Gl 2 (w64C kA) w) :
    Calls Tryd.prog 7 #[(vA (nnC x)), (vA (nnC y))] w (Ret fun r w' => r = vT ∧ Ext w w') := by
  refine calls_of (n := 79) (σ := [(0, (vA (nnC x))), (1, (vA (nnC y)))]) Tryd.func7 rfl ?_
  have hgl0 := hg0.lt
  have hgl1 := hg1.lt
  have hgl2 := hg2.lt
  have hc0 := x.chk0
  have hcy := y.chk0
  have hn1 := x.n_ok
  have hn2 := y.n_ok
  refine wpC_seq (wpC_region (wpF_step (op_new (some 2) (Instr.box 27 (vA (nnC x))) (vP w.heap.size 0) (nnC x) 27 ?_)))
  intro w1 hBw1 hEw1
  have hzw1 := hEw1.size; have hlw1 := hBw1.lt
  refine wpF_step (op_new (some 3) (Instr.box 27 (vA (nnC y))) (vP w1.heap.size 0) (nnC y) 27 ?_)
  intro w2 hBw2 hEw2
  have hzw2 := hEw2.size; have hlw2 := hBw2.lt
  refine wpF_run 1 [(4, vF)] (wpF_end (then_code (wpC_seq (wpC_region (wpF_step (op_v (some 14) (Instr.loadAt 27 (vP w.heap.size 0)) (vA (nnC x)) (rn_lda (vs := nnC x) ((hBw1.ext hEw2).all) (by rw [nnC_len]; kernel_rfl)) ?_))))))
  refine wpF_step (op_call (some 15) (c_NNOf x _) ?_)
  rintro _ w3 ⟨rfl, hEw3⟩
  have hzw3 := hEw3.size
  refine wpF_run 3 [(17, (vA (nodC (x.nod x.p)))), (16, (vI x.n)), (13, (.tuple #[(vI x.n), (vA (nodC (x.nod x.p)))]))] (wpF_step (op_new (some 6) (Instr.alloc 41 true (.tuple #[])) (vP w3.heap.size 0) (nodC Nod.zero) 41 ?_))
  intro w4 hBw4 hEw4
  have hzw4 := hEw4.size; have hlw4 := hBw4.lt
  refine wpF_run 1 [(5, (vI x.n))] (wpF_step (op_store 41 w3.heap.size 0 41 (vA (nodC (x.nod x.p))) (nodC Nod.zero) (nodC (x.nod x.p)) hBw4 (by rw [nodC_len]; kernel_rfl) (by first | (simp; done) | (simp; omega)) (nodC_one _) ?_))
  intro w5 hBw5 hCw5
  have hzw5 := hCw5.size
  rw [setFrom_all _ _ (by simp)] at hBw5
  refine wpF_end (then_code (wpC_seq (wpC_region ?_)))
  have hK1 := (((((hBw2.ext hEw3)).ext hEw4)).chg hCw5 (fun hs => by have h : _ = _ := hs; omega))
  refine wpF_step (op_v (some 19) (Instr.loadAt 27 (vP w1.heap.size 0)) (vA (nnC y)) (rn_lda (vs := nnC y) (hK1.all) (by rw [nnC_len]; kernel_rfl)) ?_)
  refine wpF_step (op_call (some 20) (c_NNOf y _) ?_)
  rintro _ w6 ⟨rfl, hEw6⟩
  have hzw6 := hEw6.size
  refine wpF_run 3 [(22, (vA (nodC (y.nod y.p)))), (21, (vI y.n)), (18, (.tuple #[(vI y.n), (vA (nodC (y.nod y.p)))]))] (wpF_step (op_new (some 8) (Instr.alloc 41 true (.tuple #[])) (vP w6.heap.size 0) (nodC Nod.zero) 41 ?_))
  intro w7 hBw7 hEw7
  have hzw7 := hEw7.size; have hlw7 := hBw7.lt
  refine wpF_run 1 [(7, (vI y.n))] (wpF_step (op_store 41 w6.heap.size 0 41 (vA (nodC (y.nod y.p))) (nodC Nod.zero) (nodC (y.nod y.p)) hBw7 (by rw [nodC_len]; kernel_rfl) (by first | (simp; done) | (simp; omega)) (nodC_one _) ?_))
  intro w8 hBw8 hCw8
  have hzw8 := hCw8.size
  rw [setFrom_all _ _ (by simp)] at hBw8
  refine wpF_end (then_code (wpC_seq (wpC_region ?_)))
  have hK2 := (((((hBw5.ext hEw6)).ext hEw7)).chg hCw8 (fun hs => by have h : _ = _ := hs; omega))
  refine wpF_step (op_v (some 24) (Instr.loadAt 41 (vP w3.heap.size 0)) (vA (nodC (x.nod x.p))) (rn_lda (vs := nodC (x.nod x.p)) (hK2.all) (by rw [nodC_len]; kernel_rfl)) ?_)
  have hK3 := (((((((((((((((hg0.ext hEw1)).ext hEw2)).ext hEw3)).ext hEw4)).chg hCw5 (fun hs => by have h : _ = _ := hs; omega))).ext hEw6)).ext hEw7)).chg hCw8 (fun hs => by have h : _ = _ := hs; omega))
  have hK4 := (((((((((((((((hg1.ext hEw1)).ext hEw2)).ext hEw3)).ext hEw4)).chg hCw5 (fun hs => by have h : _ = _ := hs; omega))).ext hEw6)).ext hEw7)).chg hCw8 (fun hs => by have h : _ = _ := hs; omega))
  have hK5 := (((((((((((((((hg2.ext hEw1)).ext hEw2)).ext hEw3)).ext hEw4)).chg hCw5 (fun hs => by have h : _ = _ := hs; omega))).ext hEw6)).ext hEw7)).chg hCw8 (fun hs => by have h : _ = _ := hs; omega))
  refine wpF_step (op_call (some 25) (c_NDigest (x.nod x.p) _ (by assumption) hK3 hK4 hK5) ?_)
  rintro _ w9 ⟨rfl, hEw9⟩
  have hzw9 := hEw9.size
  refine wpF_run 3 [(27, (vI 0)), (26, (vA (digC (shaD (nodB (x.nod x.p)))))), (23, (.tuple #[(vA (digC (shaD (nodB (x.nod x.p))))), (vI 0)]))] (wpF_step (op_new (some 9) (Instr.alloc 33 true (.tuple #[])) (vP w9.heap.size 0) (digC Dig.zero) 33 ?_))
  intro w10 hBw10 hEw10
  have hzw10 := hEw10.size; have hlw10 := hBw10.lt
  refine wpF_step (op_store 33 w9.heap.size 0 33 (vA (digC (shaD (nodB (x.nod x.p))))) (digC Dig.zero) (digC (shaD (nodB (x.nod x.p)))) hBw10 (by rw [digC_len]; kernel_rfl) (by first | (simp; done) | (simp; omega)) (digC_one _) ?_)
  intro w11 hBw11 hCw11
  have hzw11 := hCw11.size
  rw [setFrom_all _ _ (by simp)] at hBw11
  refine wpF_run 1 [(10, (vI 0))] (wpF_end (then_code (wpC_seq (wpC_region ?_))))
  have hK6 := (((((hBw8.ext hEw9)).ext hEw10)).chg hCw11 (fun hs => by have h : _ = _ := hs; omega))
  refine wpF_step (op_v (some 29) (Instr.loadAt 41 (vP w6.heap.size 0)) (vA (nodC (y.nod y.p))) (rn_lda (vs := nodC (y.nod y.p)) (hK6.all) (by rw [nodC_len]; kernel_rfl)) ?_)
  have hK7 := (((((hK3.ext hEw9)).ext hEw10)).chg hCw11 (fun hs => by have h : _ = _ := hs; omega))
  have hK8 := (((((hK4.ext hEw9)).ext hEw10)).chg hCw11 (fun hs => by have h : _ = _ := hs; omega))
  have hK9 := (((((hK5.ext hEw9)).ext hEw10)).chg hCw11 (fun hs => by have h : _ = _ := hs; omega))
  refine wpF_step (op_call (some 30) (c_NDigest (y.nod y.p) _ (by assumption) hK7 hK8 hK9) ?_)
  rintro _ w12 ⟨rfl, hEw12⟩
  have hzw12 := hEw12.size
  refine wpF_run 3 [(32, (vI 0)), (31, (vA (digC (shaD (nodB (y.nod y.p)))))), (28, (.tuple #[(vA (digC (shaD (nodB (y.nod y.p))))), (vI 0)]))] (wpF_step (op_new (some 11) (Instr.alloc 33 true (.tuple #[])) (vP w12.heap.size 0) (digC Dig.zero) 33 ?_))
  intro w13 hBw13 hEw13
  have hzw13 := hEw13.size; have hlw13 := hBw13.lt
  refine wpF_step (op_store 33 w12.heap.size 0 33 (vA (digC (shaD (nodB (y.nod y.p))))) (digC Dig.zero) (digC (shaD (nodB (y.nod y.p)))) hBw13 (by rw [digC_len]; kernel_rfl) (by first | (simp; done) | (simp; omega)) (digC_one _) ?_)
  intro w14 hBw14 hCw14
  have hzw14 := hCw14.size
  rw [setFrom_all _ _ (by simp)] at hBw14
  refine wpF_run 1 [(12, (vI 0))] (wpF_end (then_code (wpC_seq (wpC_seq (wpC_drawM (Ext w14.drew) 18 [(34, 1024, 0), (35, 8589934592, 1), (36, 17179869184, 2), (37, 34359742464, 4), (38, 103079215104, 12), (39, 171798691840, 20), (40, 274877906944, 36), (41, 549755814400, 64), (42, 549755813952, 64), (43, 2748779069440, 320), (44, 6047313952768, 704), (45, 9345848836096, 1088), (46, 17592186044416, 2560), (47, 35184372090880, 4096), (48, 35184372089088, 4096), (49, 175921860444160, 20480), (50, 387028092977152, 45056), (51, 598134325510144, 69632)] (fun hT187 => ?_))))))
  have hEw15 : Ext w14 w14.drew := Ext.drew w14
  generalize w14.drew = w15 at hEw15 ⊢
  have hzw15 := hEw15.size
  refine anyM_run hT187 [(0, 33, (vI 0)), (1, 34, vF), (2, 35, vF), (3, 36, (vI 0)), (4, 37, vF), (5, 38, vF), (6, 39, vF)] 7 127 ?_
  have hK10 := (((((((hBw11.ext hEw12)).ext hEw13)).chg hCw14 (fun hs => by have h : _ = _ := hs; omega))).ext hEw15)
  refine anyM_take hT187 7 255 (some 40) (vA (digC (shaD (nodB (x.nod x.p))))) (yld_val (Instr.loadAt 33 (vP w9.heap.size 0)) (fun w' hC => rn_lda (vs := digC (shaD (nodB (x.nod x.p)))) ((hK10.ext hC).all) (by rw [digC_len]; kernel_rfl))) ?_
  have hK11 := (((((((((((((hK2.ext hEw9)).ext hEw10)).chg hCw11 (fun hs => by have h : _ = _ := hs; omega))).ext hEw12)).ext hEw13)).chg hCw14 (fun hs => by have h : _ = _ := hs; omega))).ext hEw15)
  refine anyM_take hT187 8 511 (some 41) (vA (nodC (x.nod x.p))) (yld_val (Instr.loadAt 41 (vP w3.heap.size 0)) (fun w' hC => rn_lda (vs := nodC (x.nod x.p)) ((hK11.ext hC).all) (by rw [nodC_len]; kernel_rfl))) (anyM_one 9 1023 (op_call (some 42) (c_rNDigest (x.nod x.p) _) ?_))
  rintro _ w16 ⟨rfl, hEw16⟩
  have hzw16 := hEw16.size
  refine ⟨.inr hEw16, ?_⟩
  refine anyM_take (hw := show Ext w15 w16 from hEw16) hT187 10 2047 (some 43) vF (yld_val (bo .neq 33 (.tmp 40) (.tmp 42) (vA (digC (shaD (nodB (x.nod x.p))))) (vA (digC (shaD (nodB (x.nod x.p)))))) (fun w' hC => run_neqAgg (r := true) (T := 33) ((run_eq_dig (dd := 9998) (t := 33) (e := 5) (shaD (nodB (x.nod x.p))) (shaD (nodB (x.nod x.p)))).trans (congrArg (fun b => Result.ok b _) (show ((shaD (nodB (x.nod x.p))).l == (shaD (nodB (x.nod x.p))).l) = true from by simp))))) (anyM_run (hw := show Ext w15 w16 from hEw16) hT187 [(11, 44, vF), (12, 45, vF)] 2 8191 (anyM_take (hw := show Ext w15 w16 from hEw16) hT187 13 16383 (some 46) (vA (digC (shaD (nodB (y.nod y.p))))) (yld_val (Instr.loadAt 33 (vP w12.heap.size 0)) (fun w' hC => rn_lda (vs := digC (shaD (nodB (y.nod y.p)))) (((hBw14.ext hEw15).ext hC).all) (by rw [digC_len]; kernel_rfl))) ?_))
  have hK12 := (((((((hK6.ext hEw12)).ext hEw13)).chg hCw14 (fun hs => by have h : _ = _ := hs; omega))).ext hEw15)
  refine anyM_take (hw := show Ext w15 w16 from hEw16) hT187 14 32767 (some 47) (vA (nodC (y.nod y.p))) (yld_val (Instr.loadAt 41 (vP w6.heap.size 0)) (fun w' hC => rn_lda (vs := nodC (y.nod y.p)) ((hK12.ext hC).all) (by rw [nodC_len]; kernel_rfl))) (anyM_one 15 65535 (op_call (some 48) (c_rNDigest (y.nod y.p) _) ?_))
  rintro _ w17 ⟨rfl, hEw17⟩
  have hzw17 := hEw17.size
  refine ⟨.inr (hEw16.trans hEw17), ?_⟩
  refine anyM_take (hw := show Ext w15 w17 from (hEw16.trans hEw17)) hT187 16 131071 (some 49) vF (yld_val (bo .neq 33 (.tmp 46) (.tmp 48) (vA (digC (shaD (nodB (y.nod y.p))))) (vA (digC (shaD (nodB (y.nod y.p)))))) (fun w' hC => run_neqAgg (r := true) (T := 33) ((run_eq_dig (dd := 9998) (t := 33) (e := 5) (shaD (nodB (y.nod y.p))) (shaD (nodB (y.nod y.p)))).trans (congrArg (fun b => Result.ok b _) (show ((shaD (nodB (y.nod y.p))).l == (shaD (nodB (y.nod y.p))).l) = true from by simp))))) (anyM_run (hw := show Ext w15 w17 from (hEw16.trans hEw17)) hT187 [(17, 50, vF)] 1 262143 (anyM_done (then_code (wpC_false (wpC_skip (then_code (wpC_seq (wpC_seq (wpC_region ?_)))))))))
  refine wpF_step (op_v (some 51) (Instr.loadAt 33 (vP w9.heap.size 0)) (vA (digC (shaD (nodB (x.nod x.p))))) (rn_lda (vs := digC (shaD (nodB (x.nod x.p)))) ((((hK10.ext hEw16)).ext hEw17).all) (by rw [digC_len]; kernel_rfl)) ?_)
  have hK13 := (((((hBw14.ext hEw15)).ext hEw16)).ext hEw17)
  refine wpF_step (op_v (some 52) (Instr.loadAt 33 (vP w12.heap.size 0)) (vA (digC (shaD (nodB (y.nod y.p))))) (rn_lda (vs := digC (shaD (nodB (y.nod y.p)))) (hK13.all) (by rw [digC_len]; kernel_rfl)) ?_)
  rcases Bool.eq_false_or_eq_true ((shaD (nodB (x.nod x.p))).l == (shaD (nodB (y.nod y.p))).l) with hq53 | hq53
  · refine wpF_step (op_v (some 53) (bo .eql 33 (.tmp 51) (.tmp 52) (vA (digC (shaD (nodB (x.nod x.p))))) (vA (digC (shaD (nodB (y.nod y.p)))))) vT (run_eqlAgg (r := true) (T := 33) ((run_eq_dig (dd := 9998) (t := 33) (e := 5) (shaD (nodB (x.nod x.p))) (shaD (nodB (y.nod y.p)))).trans (congrArg (fun b => Result.ok b _) (show ((shaD (nodB (x.nod x.p))).l == (shaD (nodB (y.nod y.p))).l) = true from hq53)))) ?_)
    refine wpF_run 1 [(54, vT)] (wpF_step (op_v (some 55) (Instr.loadAt 41 (vP w3.heap.size 0)) (vA (nodC (x.nod x.p))) (rn_lda (vs := nodC (x.nod x.p)) ((((hK11.ext hEw16)).ext hEw17).all) (by rw [nodC_len]; kernel_rfl)) ?_))
    refine wpF_step (op_v (some 56) (Instr.loadAt 41 (vP w6.heap.size 0)) (vA (nodC (y.nod y.p))) (rn_lda (vs := nodC (y.nod y.p)) ((((hK12.ext hEw16)).ext hEw17).all) (by rw [nodC_len]; kernel_rfl)) ?_)
    rcases Bool.eq_false_or_eq_true ((x.nod x.p).eqb (y.nod y.p)) with hq57 | hq57
    · refine wpF_step (op_v (some 57) (bo .neq 41 (.tmp 55) (.tmp 56) (vA (nodC (x.nod x.p))) (vA (nodC (y.nod y.p)))) vF (run_neqAgg (r := true) (T := 41) ((run_eq_nod (dd := 9995) (N := 41) (R := 36) (E := 39) (r := 35) (en := 38) (t8 := 5) (td := 33) (e := 5) (tn := 31) (t32 := 28) (t64 := 29) (x.nod x.p) (y.nod y.p)).trans (congrArg (fun b => Result.ok b _) (show ((x.nod x.p).eqb (y.nod y.p)) = true from hq57)))) ?_)
      refine wpF_run 1 [(58, vF)] (wpF_end (then_code (wpC_false (wpC_skip (then_code (wpC_seq (wpC_drawM (Ext w17.drew) 11 [(70, 512, 0), (71, 2048, 0), (72, 1770887431076116955136, 3), (73, 64, 0), (74, 256, 0), (75, 14167099448608935641088, 24), (76, 21250649172913403461632, 36), (77, 37778931862957161709568, 64), (78, 75557863725914323419136, 128), (79, 226673591177742970257408, 384), (5, 302231454903657293676544, 1023)] (fun hT236 => ?_))))))))
      have hEw18 : Ext w17 w17.drew := Ext.drew w17
      generalize w17.drew = w18 at hEw18 ⊢
      have hzw18 := hEw18.size
      have hK14 := (((((hK10.ext hEw16)).ext hEw17)).ext hEw18)
      refine anyM_take hT236 0 1 (some 69) (vA (digC (shaD (nodB (x.nod x.p))))) (yld_val (Instr.loadAt 33 (vP w9.heap.size 0)) (fun w' hC => rn_lda (vs := digC (shaD (nodB (x.nod x.p)))) ((hK14.ext hC).all) (by rw [digC_len]; kernel_rfl))) (anyM_take hT236 1 3 (some 70) (vA (digC (shaD (nodB (y.nod y.p))))) (yld_val (Instr.loadAt 33 (vP w12.heap.size 0)) (fun w' hC => rn_lda (vs := digC (shaD (nodB (y.nod y.p)))) (((hK13.ext hEw18).ext hC).all) (by rw [digC_len]; kernel_rfl))) (anyM_take hT236 2 7 (some 71) vT (yld_val (bo .eql 33 (.tmp 69) (.tmp 70) (vA (digC (shaD (nodB (x.nod x.p))))) (vA (digC (shaD (nodB (y.nod y.p)))))) (fun w' hC => run_eqlAgg (r := true) (T := 33) ((run_eq_dig (dd := 9998) (t := 33) (e := 5) (shaD (nodB (x.nod x.p))) (shaD (nodB (y.nod y.p)))).trans (congrArg (fun b => Result.ok b _) (show ((shaD (nodB (x.nod x.p))).l == (shaD (nodB (y.nod y.p))).l) = true from hq53))))) ?_))
      have hK15 := (((((hK11.ext hEw16)).ext hEw17)).ext hEw18)
      refine anyM_take hT236 3 15 (some 72) (vA (nodC (x.nod x.p))) (yld_val (Instr.loadAt 41 (vP w3.heap.size 0)) (fun w' hC => rn_lda (vs := nodC (x.nod x.p)) ((hK15.ext hC).all) (by rw [nodC_len]; kernel_rfl))) ?_
      have hK16 := (((((hK12.ext hEw16)).ext hEw17)).ext hEw18)
      refine anyM_take hT236 4 31 (some 73) (vA (nodC (y.nod y.p))) (yld_val (Instr.loadAt 41 (vP w6.heap.size 0)) (fun w' hC => rn_lda (vs := nodC (y.nod y.p)) ((hK16.ext hC).all) (by rw [nodC_len]; kernel_rfl))) (anyM_take hT236 5 63 (some 74) vT (yld_val (bo .eql 41 (.tmp 72) (.tmp 73) (vA (nodC (x.nod x.p))) (vA (nodC (y.nod y.p)))) (fun w' hC => run_eqlAgg (r := true) (T := 41) ((run_eq_nod (dd := 9995) (N := 41) (R := 36) (E := 39) (r := 35) (en := 38) (t8 := 5) (td := 33) (e := 5) (tn := 31) (t32 := 28) (t64 := 29) (x.nod x.p) (y.nod y.p)).trans (congrArg (fun b => Result.ok b _) (show ((x.nod x.p).eqb (y.nod y.p)) = true from hq57))))) (anyM_run hT236 [(6, 75, vT), (7, 76, vT)] 2 255 ?_))
      have hK17 := (((((((((((((hK7.ext hEw12)).ext hEw13)).chg hCw14 (fun hs => by have h : _ = _ := hs; omega))).ext hEw15)).ext hEw16)).ext hEw17)).ext hEw18)
      refine anyM_one 8 511 (op_call (some 77) (c_lives13 _ hK17) ?_)
      rintro _ w19 ⟨rfl, hEw19⟩
      have hzw19 := hEw19.size
      refine ⟨.inr hEw19, ?_⟩
      refine anyM_run (hw := show Ext w18 w19 from hEw19) hT236 [(9, 78, vT), (10, 4, vT)] 2 2047 (anyM_done (then_code (wpC_ret (body_rets vT ?_))))
      have hX1 : Ext w w19 := ((((((Ext.own (((Ext.own (((Ext.own (((Ext.own (((hEw1.trans hEw2).trans hEw3).trans hEw4) hCw5 (by omega)).trans hEw6).trans hEw7) hCw8 (by omega)).trans hEw9).trans hEw10) hCw11 (by omega)).trans hEw12).trans hEw13) hCw14 (by omega)).trans hEw15).trans hEw16).trans hEw17).trans hEw18).trans hEw19)
      exact ⟨rfl, hX1⟩
    · refine wpF_step (op_v (some 57) (bo .neq 41 (.tmp 55) (.tmp 56) (vA (nodC (x.nod x.p))) (vA (nodC (y.nod y.p)))) vT (run_neqAgg (r := false) (T := 41) ((run_eq_nod (dd := 9995) (N := 41) (R := 36) (E := 39) (r := 35) (en := 38) (t8 := 5) (td := 33) (e := 5) (tn := 31) (t32 := 28) (t64 := 29) (x.nod x.p) (y.nod y.p)).trans (congrArg (fun b => Result.ok b _) (show ((x.nod x.p).eqb (y.nod y.p)) = false from hq57)))) ?_)
      refine wpF_run 1 [(58, vT)] (wpF_end (then_code (wpC_true (wpC_seq (wpC_drawM (Ext w17.drew) 11 [(60, 64, 0), (61, 576460752303423488, 1), (62, 1152921504606846976, 2), (63, 256, 0), (64, 4611686018427387904, 10), (65, 9223372036854775808, 16), (66, 20752587082923245568, 36), (67, 36893488147419103232, 80), (68, 73786976294838206464, 128), (69, 221360928884514619392, 384), (5, 295147905179352825856, 1023)] (fun hT268 => ?_))))))
      have hEw20 : Ext w17 w17.drew := Ext.drew w17
      generalize w17.drew = w20 at hEw20 ⊢
      have hzw20 := hEw20.size
      have hK18 := (((((hK11.ext hEw16)).ext hEw17)).ext hEw20)
      refine anyM_take hT268 0 1 (some 59) (vA (nodC (x.nod x.p))) (yld_val (Instr.loadAt 41 (vP w3.heap.size 0)) (fun w' hC => rn_lda (vs := nodC (x.nod x.p)) ((hK18.ext hC).all) (by rw [nodC_len]; kernel_rfl))) ?_
      have hK19 := (((((hK12.ext hEw16)).ext hEw17)).ext hEw20)
      refine anyM_take hT268 3 9 (some 62) (vA (nodC (y.nod y.p))) (yld_val (Instr.loadAt 41 (vP w6.heap.size 0)) (fun w' hC => rn_lda (vs := nodC (y.nod y.p)) ((hK19.ext hC).all) (by rw [nodC_len]; kernel_rfl))) (anyM_one 1 11 (op_call (some 60) (c_rNBytes (x.nod x.p) _) ?_))
      rintro _ w21 ⟨a1, ca1, rfl, hFz8_0, hEw21⟩
      have hzw21 := hEw21.size
      have hlea1 := hFz8_0.le
      have hba1 := hFz8_0.bs
      refine ⟨.inr hEw21, ?_⟩
      refine anyM_class (C := Ext w20) (C' := Ext w21) (fun w' h => (hEw21).trans h) (anyM_take hT268 2 15 (some 61) (.string ⟨(nodB (x.nod x.p)).toArray⟩) (yld_val (convert 44 9 (.slice a1 (nodL (x.nod x.p)) ca1)) (fun w' hC => run_string 5 (hba1.ext hC))) (anyM_one 4 31 (op_call (some 63) (c_rNBytes (y.nod y.p) _) ?_)))
      rintro _ w22 ⟨a2, ca2, rfl, hFz9_0, hEw22⟩
      have hzw22 := hEw22.size
      have hlea2 := hFz9_0.le
      have hba2 := hFz9_0.bs
      refine ⟨.inr hEw22, ?_⟩
      refine anyM_class (C := Ext w21) (C' := Ext w22) (fun w' h => (hEw22).trans h) (anyM_take hT268 5 63 (some 64) (.string ⟨(nodB (y.nod y.p)).toArray⟩) (yld_val (convert 44 9 (.slice a2 (nodL (y.nod y.p)) ca2)) (fun w' hC => run_string 5 (hba2.ext hC))) (anyM_take hT268 6 127 (some 65) vT (yld_b (!((⟨(nodB (x.nod x.p)).toArray⟩ : ByteArray).toList == (⟨(nodB (y.nod y.p)).toArray⟩ : ByteArray).toList)) (strNT (fun hh => by rw [nodB_inj x.chk0 y.chk0 hh, (Nod.eqb_iff _ _).2 rfl] at hq57; cases hq57))) (anyM_run hT268 [(7, 66, vT)] 1 255 ?_)))
      have hK20 := (((((((((((((((((hK7.ext hEw12)).ext hEw13)).chg hCw14 (fun hs => by have h : _ = _ := hs; omega))).ext hEw15)).ext hEw16)).ext hEw17)).ext hEw20)).ext hEw21)).ext hEw22)
      refine anyM_one 8 511 (op_call (some 67) (c_lives13 _ hK20) ?_)
      rintro _ w23 ⟨rfl, hEw23⟩
      have hzw23 := hEw23.size
      refine ⟨.inr hEw23, ?_⟩
      refine anyM_run (hw := show Ext w22 w23 from hEw23) hT268 [(9, 68, vT), (10, 4, vT)] 2 2047 (anyM_done (then_code (wpC_ret (then_ret (body_rets vT ?_)))))
      have hX2 : Ext w w23 := ((((((((Ext.own (((Ext.own (((Ext.own (((Ext.own (((hEw1.trans hEw2).trans hEw3).trans hEw4) hCw5 (by omega)).trans hEw6).trans hEw7) hCw8 (by omega)).trans hEw9).trans hEw10) hCw11 (by omega)).trans hEw12).trans hEw13) hCw14 (by omega)).trans hEw15).trans hEw16).trans hEw17).trans hEw20).trans hEw21).trans hEw22).trans hEw23)
      exact ⟨rfl, hX2⟩
  · refine wpF_step (op_v (some 53) (bo .eql 33 (.tmp 51) (.tmp 52) (vA (digC (shaD (nodB (x.nod x.p))))) (vA (digC (shaD (nodB (y.nod y.p)))))) vF (run_eqlAgg (r := false) (T := 33) ((run_eq_dig (dd := 9998) (t := 33) (e := 5) (shaD (nodB (x.nod x.p))) (shaD (nodB (y.nod y.p)))).trans (congrArg (fun b => Result.ok b _) (show ((shaD (nodB (x.nod x.p))).l == (shaD (nodB (y.nod y.p))).l) = false from hq53)))) ?_)
    refine wpF_run 5 [(58, vF), (57, undef), (56, undef), (55, undef), (54, vF)] (wpF_end (then_code (wpC_false (wpC_skip (then_code (wpC_seq (wpC_drawM (Ext w17.drew) 11 [(70, 512, 0), (71, 2048, 0), (72, 1770887431076116955136, 3), (73, 64, 0), (74, 256, 0), (75, 14167099448608935641088, 24), (76, 21250649172913403461632, 36), (77, 37778931862957161709568, 64), (78, 75557863725914323419136, 128), (79, 226673591177742970257408, 384), (5, 302231454903657293676544, 1023)] (fun hT315 => ?_))))))))
    have hEw24 : Ext w17 w17.drew := Ext.drew w17
    generalize w17.drew = w24 at hEw24 ⊢
    have hzw24 := hEw24.size
    have hK21 := (((((hK10.ext hEw16)).ext hEw17)).ext hEw24)
    refine anyM_take hT315 0 1 (some 69) (vA (digC (shaD (nodB (x.nod x.p))))) (yld_val (Instr.loadAt 33 (vP w9.heap.size 0)) (fun w' hC => rn_lda (vs := digC (shaD (nodB (x.nod x.p)))) ((hK21.ext hC).all) (by rw [digC_len]; kernel_rfl))) (anyM_take hT315 1 3 (some 70) (vA (digC (shaD (nodB (y.nod y.p))))) (yld_val (Instr.loadAt 33 (vP w12.heap.size 0)) (fun w' hC => rn_lda (vs := digC (shaD (nodB (y.nod y.p)))) (((hK13.ext hEw24).ext hC).all) (by rw [digC_len]; kernel_rfl))) (anyM_take hT315 2 7 (some 71) vF (yld_val (bo .eql 33 (.tmp 69) (.tmp 70) (vA (digC (shaD (nodB (x.nod x.p))))) (vA (digC (shaD (nodB (y.nod y.p)))))) (fun w' hC => run_eqlAgg (r := false) (T := 33) ((run_eq_dig (dd := 9998) (t := 33) (e := 5) (shaD (nodB (x.nod x.p))) (shaD (nodB (y.nod y.p)))).trans (congrArg (fun b => Result.ok b _) (show ((shaD (nodB (x.nod x.p))).l == (shaD (nodB (y.nod y.p))).l) = false from hq53))))) ?_))
    have hK22 := (((((hK11.ext hEw16)).ext hEw17)).ext hEw24)
    refine anyM_take hT315 3 15 (some 72) (vA (nodC (x.nod x.p))) (yld_val (Instr.loadAt 41 (vP w3.heap.size 0)) (fun w' hC => rn_lda (vs := nodC (x.nod x.p)) ((hK22.ext hC).all) (by rw [nodC_len]; kernel_rfl))) ?_
    have hK23 := (((((hK12.ext hEw16)).ext hEw17)).ext hEw24)
    refine anyM_take hT315 4 31 (some 73) (vA (nodC (y.nod y.p))) (yld_val (Instr.loadAt 41 (vP w6.heap.size 0)) (fun w' hC => rn_lda (vs := nodC (y.nod y.p)) ((hK23.ext hC).all) (by rw [nodC_len]; kernel_rfl))) (anyM_take hT315 5 63 (some 74) vF (yld_val (bo .eql 41 (.tmp 72) (.tmp 73) (vA (nodC (x.nod x.p))) (vA (nodC (y.nod y.p)))) (fun w' hC => run_eqlAgg (r := false) (T := 41) ((run_eq_nod (dd := 9995) (N := 41) (R := 36) (E := 39) (r := 35) (en := 38) (t8 := 5) (td := 33) (e := 5) (tn := 31) (t32 := 28) (t64 := 29) (x.nod x.p) (y.nod y.p)).trans (congrArg (fun b => Result.ok b _) (show ((x.nod x.p).eqb (y.nod y.p)) = false from by cases he : (x.nod x.p).eqb (y.nod y.p) with | false => rfl | true => (rw [(Nod.eqb_iff _ _).1 he] at hq53; simp at hq53)))))) (anyM_run hT315 [(6, 75, vT), (7, 76, vT)] 2 255 ?_))
    have hK24 := (((((((((((((hK7.ext hEw12)).ext hEw13)).chg hCw14 (fun hs => by have h : _ = _ := hs; omega))).ext hEw15)).ext hEw16)).ext hEw17)).ext hEw24)
    refine anyM_one 8 511 (op_call (some 77) (c_lives13 _ hK24) ?_)
    rintro _ w25 ⟨rfl, hEw25⟩
    have hzw25 := hEw25.size
    refine ⟨.inr hEw25, ?_⟩
    refine anyM_run (hw := show Ext w24 w25 from hEw25) hT315 [(9, 78, vT), (10, 4, vT)] 2 2047 (anyM_done (then_code (wpC_ret (body_rets vT ?_))))
    have hX3 : Ext w w25 := ((((((Ext.own (((Ext.own (((Ext.own (((Ext.own (((hEw1.trans hEw2).trans hEw3).trans hEw4) hCw5 (by omega)).trans hEw6).trans hEw7) hCw8 (by omega)).trans hEw9).trans hEw10) hCw11 (by omega)).trans hEw12).trans hEw13) hCw14 (by omega)).trans hEw15).trans hEw16).trans hEw17).trans hEw24).trans hEw25)
    exact ⟨rfl, hX3⟩

end Go.Proofs.YtpcbhalagllhnaaDoor
