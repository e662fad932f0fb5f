/- CsN8: what each function does, by its own code. No condition beyond those of each statement. -/
import Derived.Test.YtpcbhalagllhnaaDoorCsN7
import Derived.Test.YtpcbhalagllhnaaDoorCsNod3
namespace Go.Proofs.YtpcbhalagllhnaaDoor
open Go Go.RowKit Go.Cs
set_option maxRecDepth 100000
set_option linter.all false
set_option linter.unusedVariables false

theorem c_NodesBack (x : NN)  (w : World) (hg0 : Gl 0 [vI 45, vI 33] w) :
    Calls Tryd.prog 3 #[(vA (nnC x))] w (Ret fun r w' => r = vT ∧ Ext w w') := by
  refine calls_of (n := 87) (σ := [(0, (vA (nnC x)))]) Tryd.func3 rfl ?_
  have hgl0 := hg0.lt
  have hn1 := x.n_ok
  have hl5 := x.l_le5
  have hc0 := x.chk0
  have hnp := nodB_pos (x.nod x.p)
  refine wpC_seq (wpC_region (wpF_step (op_new (some 1) (Instr.box 27 (vA (nnC x))) (vP w.heap.size 0) (nnC x) 27 ?_)))
  intro w1 hBw1 hEw1
  have hzw1 := hEw1.size; have hlw1 := hBw1.lt
  refine wpF_run 1 [(2, vF)] (wpF_end (then_code (wpC_seq (wpC_region (wpF_step (op_v (some 10) (Instr.loadAt 27 (vP w.heap.size 0)) (vA (nnC x)) (rn_lda (vs := nnC x) (hBw1.all) (by rw [nnC_len]; kernel_rfl)) ?_))))))
  refine wpF_step (op_call (some 11) (c_NNOf x _) ?_)
  rintro _ w2 ⟨rfl, hEw2⟩
  have hzw2 := hEw2.size
  refine wpF_run 3 [(13, (vA (nodC (x.nod x.p)))), (12, (vI x.n)), (9, (.tuple #[(vI x.n), (vA (nodC (x.nod x.p)))]))] (wpF_step (op_new (some 4) (Instr.alloc 41 true (.tuple #[])) (vP w2.heap.size 0) (nodC Nod.zero) 41 ?_))
  intro w3 hBw3 hEw3
  have hzw3 := hEw3.size; have hlw3 := hBw3.lt
  refine wpF_run 1 [(3, (vI x.n))] (wpF_step (op_store 41 w2.heap.size 0 41 (vA (nodC (x.nod x.p))) (nodC Nod.zero) (nodC (x.nod x.p)) hBw3 (by rw [nodC_len]; kernel_rfl) (by first | (simp; done) | (simp; omega)) (nodC_one _) ?_))
  intro w4 hBw4 hCw4
  have hzw4 := hCw4.size
  rw [setFrom_all _ _ (by simp)] at hBw4
  refine wpF_end (then_code (wpC_seq (wpC_region (wpF_step (op_v (some 15) (Instr.loadAt 41 (vP w2.heap.size 0)) (vA (nodC (x.nod x.p))) (rn_lda (vs := nodC (x.nod x.p)) (hBw4.all) (by rw [nodC_len]; kernel_rfl)) ?_)))))
  have hK1 := (((((((hg0.ext hEw1)).ext hEw2)).ext hEw3)).chg hCw4 (fun hs => by have h : _ = _ := hs; omega))
  refine wpF_step (op_call (some 16) (c_NPut (x.nod x.p) _ (by assumption) hK1) ?_)
  rintro _ w5 ⟨a1, rfl, hFz2_0, hFz2_1, hFz2_2, hFz2_3, hEw5⟩
  have hzw5 := hEw5.size
  have hla1 := hFz2_1.lt; have hna1 := hFz2_3
  have hSa1 : Bs a1 (a1 + 1) w5 (pA a1 0) (nodL (x.nod x.p)) (nodL (x.nod x.p)) (nodB (x.nod x.p)) := Bs.of_blk hFz2_1 rfl hFz2_2 (Nat.le_refl _) (le_maxLen hna1) (Nat.le_refl _) (Nat.lt_succ_self _)
  refine wpF_run 5 [(6, (vI 0)), (5, (.slice (pA a1 0) (nodL (x.nod x.p)) (nodL (x.nod x.p)))), (18, (vI 0)), (17, (.slice (pA a1 0) (nodL (x.nod x.p)) (nodL (x.nod x.p)))), (14, (.tuple #[(.slice (pA a1 0) (nodL (x.nod x.p)) (nodL (x.nod x.p))), (vI 0)]))] (wpF_end (then_code (wpC_seq (wpC_seq (wpC_drawM (Ext w5.drew) 33 [(20, 64, 0), (21, 524288, 1), (22, 1048576, 2), (23, 2097184, 4), (24, 6291456, 12), (25, 10485760, 20), (26, 18874368, 36), (27, 33554432, 68), (28, 67108880, 128), (29, 201326592, 384), (30, 335544320, 640), (31, 603979776, 1152), (32, 1073741824, 2560), (33, 2147483680, 4096), (34, 6442450944, 12288), (35, 2147483664, 4096), (36, 19327352832, 36864), (37, 36507222016, 69632), (38, 79456894976, 151552), (39, 139586437120, 266240), (40, 274877906944, 589824), (41, 549755813920, 1048576), (42, 1649267441664, 3145728), (43, 549755813920, 1048576), (44, 4947802324992, 9437184), (45, 11544872091648, 22020096), (46, 18141941858304, 34603008), (47, 35184372088832, 68157440), (48, 70368744177672, 134217728), (49, 70368744177680, 134217728), (50, 492581209243648, 939524096), (51, 633318697598976, 1207959552), (52, 1196268651020288, 2281701376)] (fun hT47 => ?_))))))
  have hEw6 : Ext w5 w5.drew := Ext.drew w5
  generalize w5.drew = w6 at hEw6 ⊢
  have hzw6 := hEw6.size
  refine anyM_run hT47 [(0, 19, (vI 0)), (1, 20, vF), (2, 21, vF), (3, 22, (.slice (pA a1 0) (nodL (x.nod x.p)) (nodL (x.nod x.p)))), (4, 23, (vI (nodL (x.nod x.p))))] 5 31 (anyM_take hT47 5 63 (some 24) vF (yld_b (((nodL (x.nod x.p) : Nat) : Int) == ((0 : Nat) : Int)) (cmpEqF (by omega))) (anyM_run hT47 [(6, 25, vF), (7, 26, vF)] 2 255 (anyM_take hT47 8 511 (some 27) (vA (nodC (x.nod x.p))) (yld_val (Instr.loadAt 41 (vP w2.heap.size 0)) (fun w' hC => rn_lda (vs := nodC (x.nod x.p)) (((((hBw4.ext hEw5)).ext hEw6).ext hC).all) (by rw [nodC_len]; kernel_rfl))) (anyM_one 9 1023 (op_call (some 28) (c_NCheck (x.nod x.p) _) ?_)))))
  rintro _ w7 ⟨rfl, hEw7⟩
  have hzw7 := hEw7.size
  rw [show chkN (x.nod x.p) = 0 from hc0]
  refine ⟨.inr hEw7, ?_⟩
  refine anyM_run (hw := show Ext w6 w7 from hEw7) hT47 [(10, 29, vF), (11, 30, vF), (12, 31, vF), (13, 32, (.slice (pA a1 0) (nodL (x.nod x.p)) (nodL (x.nod x.p))))] 4 16383 (anyM_take (hw := show Ext w6 w7 from hEw7) hT47 14 32767 (some 33) (.string ⟨(nodB (x.nod x.p)).toArray⟩) (yld_val (convert 44 9 (.slice (pA a1 0) (nodL (x.nod x.p)) (nodL (x.nod x.p)))) (fun w' hC => run_string 5 ((hSa1.ext hEw6).ext hC))) (anyM_take (hw := show Ext w6 w7 from hEw7) hT47 15 65535 (some 34) (vA (nodC (x.nod x.p))) (yld_val (Instr.loadAt 41 (vP w2.heap.size 0)) (fun w' hC => rn_lda (vs := nodC (x.nod x.p)) (((((hBw4.ext hEw5)).ext hEw6).ext hC).all) (by rw [nodC_len]; kernel_rfl))) (anyM_one 16 131071 (op_call (some 35) (c_rNBytes (x.nod x.p) _) ?_))))
  rintro _ w8 ⟨a2, ca2, rfl, hFz4_0, hEw8⟩
  have hzw8 := hEw8.size
  have hlea2 := hFz4_0.le
  have hba2 := hFz4_0.bs
  refine ⟨.inr (hEw7.trans hEw8), ?_⟩
  refine anyM_class (C := Ext w6) (C' := Ext w8) (fun w' h => ((hEw7.trans hEw8)).trans h) (anyM_take hT47 17 262143 (some 36) (.string ⟨(nodB (x.nod x.p)).toArray⟩) (yld_val (convert 44 9 (.slice a2 (nodL (x.nod x.p)) ca2)) (fun w' hC => run_string 5 (hba2.ext hC))) (anyM_take hT47 18 524287 (some 37) vF (yld_b (!((⟨(nodB (x.nod x.p)).toArray⟩ : ByteArray).toList == (⟨(nodB (x.nod x.p)).toArray⟩ : ByteArray).toList)) (strNF (rfl))) (anyM_run hT47 [(19, 38, vF), (20, 39, vF), (21, 40, (.slice (pA a1 0) (nodL (x.nod x.p)) (nodL (x.nod x.p)))), (22, 41, (vI (nodL (x.nod x.p)))), (23, 42, (.slice (pA a1 0) (nodL (x.nod x.p)) (nodL (x.nod x.p)))), (24, 43, (vI (nodL (x.nod x.p))))] 6 33554431 (anyM_take hT47 25 67108863 (some 44) vF (yld_b (((nodL (x.nod x.p) : Nat) : Int) != ((nodL (x.nod x.p) : Nat) : Int)) (cmpNeF (by omega))) (anyM_run hT47 [(26, 45, vF), (27, 46, vF), (28, 47, (vI x.n))] 3 536870911 ?_)))))
  have hK2 := (((((((hBw4.ext hEw5)).ext hEw6)).ext hEw7)).ext hEw8)
  refine anyM_take hT47 29 1073741823 (some 48) (vA (nodC (x.nod x.p))) (yld_val (Instr.loadAt 41 (vP w2.heap.size 0)) (fun w' hC => rn_lda (vs := nodC (x.nod x.p)) ((hK2.ext hC).all) (by rw [nodC_len]; kernel_rfl))) (anyM_one 30 2147483647 (op_call (some 49) (c_NFits x.n (x.nod x.p) _ (by omega) (by omega)) ?_))
  rintro _ w9 ⟨rfl, hEw9⟩
  have hzw9 := hEw9.size
  rw [show fitV x.n (x.nod x.p) = 0 from x.fit]
  refine ⟨.inr hEw9, ?_⟩
  refine anyM_run (hw := show Ext w8 w9 from hEw9) hT47 [(31, 50, vF), (32, 51, vF)] 2 8589934591 (anyM_done (then_code (wpC_false (wpC_skip (then_code (wpC_seq (wpC_region (wpF_run 1 [(53, (.slice (pA a1 0) (nodL (x.nod x.p)) (nodL (x.nod x.p))))] ?_))))))))
  have hK3 := (((((((hSa1.ext hEw6)).ext hEw7)).ext hEw8)).ext hEw9)
  have hK4 := (((((((((hK1.ext hEw5)).ext hEw6)).ext hEw7)).ext hEw8)).ext hEw9)
  refine wpF_step (op_call (some 54) (c_NGet _ hK3 hK4) ?_)
  rintro _ w10 ⟨rfl, hEw10⟩
  have hzw10 := hEw10.size
  rw [show getNE (nodB (x.nod x.p)) = 0 from getNE_nodB hc0]
  rw [show getN (nodB (x.nod x.p)) = x.nod x.p from getN_nodB hc0]
  refine wpF_run 3 [(56, (vI 0)), (55, (vA (nodC (x.nod x.p)))), (52, (.tuple #[(vA (nodC (x.nod x.p))), (vI 0)]))] (wpF_step (op_new (some 7) (Instr.alloc 41 true (.tuple #[])) (vP w10.heap.size 0) (nodC Nod.zero) 41 ?_))
  intro w11 hBw11 hEw11
  have hzw11 := hEw11.size; have hlw11 := hBw11.lt
  refine wpF_step (op_store 41 w10.heap.size 0 41 (vA (nodC (x.nod x.p))) (nodC Nod.zero) (nodC (x.nod x.p)) hBw11 (by rw [nodC_len]; kernel_rfl) (by first | (simp; done) | (simp; omega)) (nodC_one _) ?_)
  intro w12 hBw12 hCw12
  have hzw12 := hCw12.size
  rw [setFrom_all _ _ (by simp)] at hBw12
  refine wpF_run 1 [(6, (vI 0))] (wpF_end (then_code (wpC_seq (wpC_seq (wpC_region (wpF_run 3 [(59, vF), (58, vF), (57, (vI 0))] (wpF_step (op_v (some 60) (Instr.loadAt 41 (vP w10.heap.size 0)) (vA (nodC (x.nod x.p))) (rn_lda (vs := nodC (x.nod x.p)) (hBw12.all) (by rw [nodC_len]; kernel_rfl)) ?_))))))))
  have hK5 := (((((((hK2.ext hEw9)).ext hEw10)).ext hEw11)).chg hCw12 (fun hs => by have h : _ = _ := hs; omega))
  refine wpF_step (op_v (some 61) (Instr.loadAt 41 (vP w2.heap.size 0)) (vA (nodC (x.nod x.p))) (rn_lda (vs := nodC (x.nod x.p)) (hK5.all) (by rw [nodC_len]; kernel_rfl)) ?_)
  refine wpF_step (op_v (some 62) (bo .neq 41 (.tmp 60) (.tmp 61) (vA (nodC (x.nod x.p))) (vA (nodC (x.nod x.p)))) vF (run_neqAgg (r := true) (T := 41) ((run_eq_nod (dd := 9995) (N := 41) (R := 36) (E := 39) (r := 35) (en := 38) (t8 := 5) (td := 33) (e := 5) (tn := 31) (t32 := 28) (t64 := 29) (x.nod x.p) (x.nod x.p)).trans (congrArg (fun b => Result.ok b _) (show ((x.nod x.p).eqb (x.nod x.p)) = true from (Nod.eqb_iff _ _).2 rfl)))) ?_)
  refine wpF_run 1 [(63, vF)] (wpF_end (then_code (wpC_false (wpC_skip (then_code (wpC_seq (wpC_region (wpF_run 1 [(64, (.slice (pA a1 0) (nodL (x.nod x.p)) (nodL (x.nod x.p))))] (wpF_step (op_v (some 65) (Instr.indexAt 44 (.slice (pA a1 0) (nodL (x.nod x.p)) (nodL (x.nod x.p))) (vI 0)) (vP a1 (0 + 0 * 1)) (rn_ixs (E := 5) (sz := 1) (by omega)) ?_))))))))))
  have hK6 := (((((hK3.ext hEw10)).ext hEw11)).chg hCw12 (fun k h1 h2 hs => by have h : k = _ := hs; omega))
  refine wpF_step (op_v (some 66) (Instr.loadAt 5 (vP a1 (0 + 0 * 1))) (vB (byt (nodB (x.nod x.p)) 0)) (rn_ld (hK6.cell1 (by omega))) ?_)
  refine wpF_step (op_in (some 67) .u8 (IntKind.u8.wrap (((byt (nodB (x.nod x.p)) 0 : Nat) : Int) + ((1 : Nat) : Int))) ((byt (nodB (x.nod x.p)) 0 + 1) % 2 ^ 8) (wrapU rfl (by simp)) ?_)
  refine wpF_step (op_v (some 68) (Instr.indexAt 44 (.slice (pA a1 0) (nodL (x.nod x.p)) (nodL (x.nod x.p))) (vI 0)) (vP a1 (0 + 0 * 1)) (rn_ixs (E := 5) (sz := 1) (by omega)) ?_)
  have hK7 := (((((((((((((hFz2_1.ext hEw6)).ext hEw7)).ext hEw8)).ext hEw9)).ext hEw10)).ext hEw11)).chg hCw12 (fun hs => by have h : _ = _ := hs; omega))
  refine wpF_step (op_store1 5 a1 (0 + 0 * 1) 5 (vB ((byt (nodB (x.nod x.p)) 0 + 1) % 2 ^ 8)) (u8s (nodB (x.nod x.p))) hK7 (by simp [nodB_L]; omega) ?_)
  have hK8 := (((((((((((((hFz2_1.ext hEw6)).ext hEw7)).ext hEw8)).ext hEw9)).ext hEw10)).ext hEw11)).chg hCw12 (fun hs => by have h : _ = _ := hs; omega))
  intro w13 hBw13 hCw13
  have hzw13 := hCw13.size
  refine wpF_end (then_code (wpC_seq (wpC_region (wpF_step (op_v (some 70) (Instr.loadAt 41 (vP w2.heap.size 0)) (vA (nodC (x.nod x.p))) (rn_lda (vs := nodC (x.nod x.p)) (((hK5).chg hCw13 (fun hs => by have h : _ = _ := hs; omega)).all) (by rw [nodC_len]; kernel_rfl)) ?_)))))
  have hK9 := (((((((hK4.ext hEw10)).ext hEw11)).chg hCw12 (fun hs => by have h : _ = _ := hs; omega))).chg hCw13 (fun hs => by have h : _ = _ := hs; omega))
  refine wpF_step (op_call (some 71) (c_NPut (x.nod x.p) _ (by assumption) hK9) ?_)
  rintro _ w14 ⟨a3, rfl, hFz7_0, hFz7_1, hFz7_2, hFz7_3, hEw14⟩
  have hzw14 := hEw14.size
  have hla3 := hFz7_1.lt; have hna3 := hFz7_3
  have hSa3 : Bs a3 (a3 + 1) w14 (pA a3 0) (nodL (x.nod x.p)) (nodL (x.nod x.p)) (nodB (x.nod x.p)) := Bs.of_blk hFz7_1 rfl hFz7_2 (Nat.le_refl _) (le_maxLen hna3) (Nat.le_refl _) (Nat.lt_succ_self _)
  refine wpF_run 5 [(6, (vI 0)), (8, (.slice (pA a3 0) (nodL (x.nod x.p)) (nodL (x.nod x.p)))), (73, (vI 0)), (72, (.slice (pA a3 0) (nodL (x.nod x.p)) (nodL (x.nod x.p)))), (69, (.tuple #[(.slice (pA a3 0) (nodL (x.nod x.p)) (nodL (x.nod x.p))), (vI 0)]))] (wpF_end (then_code (wpC_seq (wpC_drawM (Ext w14.drew) 14 [(75, 64, 0), (76, 18889465931478580854784, 1), (77, 37778931862957161709568, 2), (78, 75557863725914323419392, 4), (79, 226673591177742970257408, 12), (80, 75557863725914323419152, 4), (81, 680020773533228910772224, 36), (82, 1284483683340543498125312, 68), (83, 2795640957858829966508032, 148), (84, 4911261142184431022243840, 260), (85, 9671406556917033397649408, 576), (86, 19342813113834066795298816, 1024), (87, 58028439341502200385896448, 3072), (3, 77371252455336267181195264, 8191)] (fun hT151 => ?_)))))
  have hEw15 : Ext w14 w14.drew := Ext.drew w14
  generalize w14.drew = w15 at hEw15 ⊢
  have hzw15 := hEw15.size
  refine anyM_run hT151 [(0, 74, (vI 0)), (1, 75, vT), (2, 76, vT), (3, 77, (.slice (pA a3 0) (nodL (x.nod x.p)) (nodL (x.nod x.p))))] 4 15 (anyM_take hT151 4 31 (some 78) (.string ⟨(nodB (x.nod x.p)).toArray⟩) (yld_val (convert 44 9 (.slice (pA a3 0) (nodL (x.nod x.p)) (nodL (x.nod x.p)))) (fun w' hC => run_string 5 ((hSa3.ext hEw15).ext hC))) ?_)
  have hK10 := ((((((hK5).chg hCw13 (fun hs => by have h : _ = _ := hs; omega))).ext hEw14)).ext hEw15)
  refine anyM_take hT151 5 63 (some 79) (vA (nodC (x.nod x.p))) (yld_val (Instr.loadAt 41 (vP w2.heap.size 0)) (fun w' hC => rn_lda (vs := nodC (x.nod x.p)) ((hK10.ext hC).all) (by rw [nodC_len]; kernel_rfl))) (anyM_one 6 127 (op_call (some 80) (c_rNBytes (x.nod x.p) _) ?_))
  rintro _ w16 ⟨a4, ca4, rfl, hFz8_0, hEw16⟩
  have hzw16 := hEw16.size
  have hlea4 := hFz8_0.le
  have hba4 := hFz8_0.bs
  refine ⟨.inr hEw16, ?_⟩
  refine anyM_class (C := Ext w15) (C' := Ext w16) (fun w' h => (hEw16).trans h) (anyM_take hT151 7 255 (some 81) (.string ⟨(nodB (x.nod x.p)).toArray⟩) (yld_val (convert 44 9 (.slice a4 (nodL (x.nod x.p)) ca4)) (fun w' hC => run_string 5 (hba4.ext hC))) (anyM_take hT151 8 511 (some 82) vT (yld_b ((⟨(nodB (x.nod x.p)).toArray⟩ : ByteArray).toList == (⟨(nodB (x.nod x.p)).toArray⟩ : ByteArray).toList) (strT (rfl))) (anyM_run hT151 [(9, 83, vT), (10, 84, vT)] 2 2047 ?_)))
  have hK11 := (((((hK9.ext hEw14)).ext hEw15)).ext hEw16)
  refine anyM_one 11 4095 (op_call (some 85) (c_lives13 _ hK11) ?_)
  rintro _ w17 ⟨rfl, hEw17⟩
  have hzw17 := hEw17.size
  refine ⟨.inr hEw17, ?_⟩
  refine anyM_run (hw := show Ext w16 w17 from hEw17) hT151 [(12, 86, vT), (13, 2, vT)] 2 16383 (anyM_done (then_code (wpC_ret (body_rets vT ?_))))
  have hX1 : Ext w w17 := (((((Ext.own (Ext.own ((((((((Ext.own ((hEw1.trans hEw2).trans hEw3) hCw4 (by omega)).trans hEw5).trans hEw6).trans hEw7).trans hEw8).trans hEw9).trans hEw10).trans hEw11) hCw12 (by omega)) hCw13 (by omega)).trans hEw14).trans hEw15).trans hEw16).trans hEw17)
  exact ⟨rfl, hX1⟩

end Go.Proofs.YtpcbhalagllhnaaDoor
