/- CsC5: what each function does, by its own code. No condition beyond those of each statement. -/
import Derived.Test.YthjplefmfjkhfaaDoorCsC4
namespace Go.Proofs.YthjplefmfjkhfaaDoor
open Go Go.RowKit Go.Cs
set_option maxRecDepth 100000
set_option linter.all false
set_option linter.unusedVariables false

theorem c_CFr0 (k : Nat) (m : Nat)  (w : World) (hp0 : k < 65536) (hp1 : 1 ≤ m) (hp2 : m ≤ 4096) (hg0 : Gl 0 [vI 45, vI 33] w) (hg1 : Gl 1 (w8C iniA) w) (hg2 : Gl 2 (w64C kA) w) :
    Calls Tryd.prog 3 #[(vA [(vH k)]), (vI m)] w (Ret fun r w' => r = vT ∧ Ext w w') := by
  refine calls_of (n := 60) (σ := [(0, (vA [(vH k)])), (1, (vI m))]) Tryd.func3 rfl ?_
  have hgl0 := hg0.lt
  have hgl1 := hg1.lt
  have hgl2 := hg2.lt
  have hn1 : 1 ≤ nof k ∧ nof k ≤ 4096 := by unfold nof; omega
  have h5 := hgt_le (nof k)
  refine wpC_seq (wpC_region (wpF_step (op_new (some 2) (Instr.box 24 (vA [(vH k)])) (vP w.heap.size 0) ([(vH k)]) 24 ?_)))
  intro w1 hBw1 hEw1
  have hzw1 := hEw1.size; have hlw1 := hBw1.lt
  refine wpF_run 1 [(4, vF)] (wpF_end (then_code (wpC_seq (wpC_region (wpF_step (op_v (some 9) (Instr.loadAt 24 (vP w.heap.size 0)) (vA [(vH k)]) (rn_lda (vs := [(vH k)]) (hBw1.all)) ?_))))))
  refine wpF_step (op_call (some 10) (c_NOf k _ (by omega)) ?_)
  rintro _ w2 ⟨rfl, hEw2⟩
  have hzw2 := hEw2.size
  refine wpF_run 1 [(5, (vI (nof k)))] (wpF_end (then_code (wpC_seq (wpC_region (wpF_run 1 [(12, (vI (nof k)))] (wpF_step (op_call (some 13) (c_Fresh (nof k) _ (by omega) (by omega) (((hg0.ext hEw1)).ext hEw2) (((hg1.ext hEw1)).ext hEw2) (((hg2.ext hEw1)).ext hEw2)) ?_)))))))
  rintro _ w3 ⟨rfl, hEw3⟩
  have hzw3 := hEw3.size
  refine wpF_run 3 [(15, (vI 0)), (14, (vA (celC (freC (nof k))))), (11, (.tuple #[(vA (celC (freC (nof k)))), (vI 0)]))] (wpF_step (op_new (some 6) (Instr.alloc 30 true (.tuple #[])) (vP w3.heap.size 0) (celC Cel.zero) 30 ?_))
  intro w4 hBw4 hEw4
  have hzw4 := hEw4.size; have hlw4 := hBw4.lt
  refine wpF_step (op_store 30 w3.heap.size 0 30 (vA (celC (freC (nof k)))) (celC Cel.zero) (celC (freC (nof k))) hBw4 (by rw [celC_len]; kernel_rfl) (by first | (simp; done) | (simp; omega)) (celC_one _) ?_)
  intro w5 hBw5 hCw5
  have hzw5 := hCw5.size
  rw [setFrom_all _ _ (by simp)] at hBw5
  refine wpF_run 1 [(7, (vI 0))] (wpF_end (then_code (wpC_seq (wpC_seq (wpC_drawM (Ext w5.drew) 18 [(17, 128, 0), (18, 65536, 1), (19, 131072, 2), (20, 262208, 4), (21, 262176, 4), (22, 1310720, 20), (23, 2883584, 44), (24, 4456448, 68), (25, 8388608, 160), (26, 16777280, 256), (27, 50331648, 768), (28, 83886080, 1280), (29, 150994944, 2304), (30, 268435456, 5120), (31, 536870944, 8192), (32, 1610612736, 24576), (33, 2684354560, 40960), (34, 4831838208, 73728)] (fun hT44 => ?_))))))
  have hEw6 : Ext w5 w5.drew := Ext.drew w5
  generalize w5.drew = w6 at hEw6 ⊢
  have hzw6 := hEw6.size
  refine anyM_run hT44 [(0, 16, (vI 0)), (1, 17, vF), (2, 18, vF)] 3 7 (anyM_take hT44 3 15 (some 19) (vA (celC (freC (nof k)))) (yld_val (Instr.loadAt 30 (vP w3.heap.size 0)) (fun w' hC => rn_lda (vs := celC (freC (nof k))) (((hBw5.ext hEw6).ext hC).all) (by rw [celC_len]; kernel_rfl))) (anyM_run hT44 [(4, 20, (vI (nof k)))] 1 31 (anyM_one 5 63 (op_call (some 21) (c_rFresh (nof k) _ (by omega) (by omega)) ?_))))
  rintro _ w7 ⟨rfl, hEw7⟩
  have hzw7 := hEw7.size
  refine ⟨.inr hEw7, ?_⟩
  refine anyM_take (hw := show Ext w6 w7 from hEw7) hT44 6 127 (some 22) vF (yld_val (bo .neq 30 (.tmp 19) (.tmp 21) (vA (celC (freC (nof k)))) (vA (celC (freC (nof k))))) (fun w' hC => run_neqAgg (r := true) (T := 30) ((run_eq_cel (dd := 9997) (t := 30) (td := 27) (e := 5) (t64 := 28) (freC (nof k)) (freC (nof k))).trans (congrArg (fun b => Result.ok b _) (show ((freC (nof k)).eqb (freC (nof k))) = true from cel_eqb_self _))))) (anyM_run (hw := show Ext w6 w7 from hEw7) hT44 [(7, 23, vF), (8, 24, vF)] 2 511 (anyM_take (hw := show Ext w6 w7 from hEw7) hT44 9 1023 (some 25) (vA (celC (freC (nof k)))) (yld_val (Instr.loadAt 30 (vP w3.heap.size 0)) (fun w' hC => rn_lda (vs := celC (freC (nof k))) (((hBw5.ext hEw6).ext hC).all) (by rw [celC_len]; kernel_rfl))) (anyM_one 10 2047 (op_call (some 26) (c_CSlot (freC (nof k)) _) ?_))))
  rintro _ w8 ⟨rfl, hEw8⟩
  have hzw8 := hEw8.size
  rw [show (freC (nof k)).ep % 2 = 0 from rfl]
  refine ⟨.inr (hEw7.trans hEw8), ?_⟩
  refine anyM_run (hw := show Ext w6 w8 from (hEw7.trans hEw8)) hT44 [(11, 27, vF), (12, 28, vF), (13, 29, vF), (14, 30, (vI (nof k)))] 4 32767 (anyM_take (hw := show Ext w6 w8 from (hEw7.trans hEw8)) hT44 15 65535 (some 31) (vI (hgt (nof k))) (yld_call (f := 13) (args := #[(vI (nof k))]) (fun w' hC => c_rHeight (nof k) _ (by omega) (by omega))) (anyM_take (hw := show Ext w6 w8 from (hEw7.trans hEw8)) hT44 16 131071 (some 32) vF (yld_b (decide (((hgt (nof k) : Nat) : Int) > ((5 : Nat) : Int))) (cmpDF (by omega))) (anyM_run (hw := show Ext w6 w8 from (hEw7.trans hEw8)) hT44 [(17, 33, vF)] 1 262143 (anyM_done (then_code (wpC_false (wpC_skip (then_code (wpC_seq ?_)))))))))
  refine wpC_region (wpF_run 1 [(35, (vI m))] ?_)
  have hK1 := (((((((((((((((hg0.ext hEw1)).ext hEw2)).ext hEw3)).ext hEw4)).chg hCw5 (fun hs => by have h : _ = _ := hs; omega))).ext hEw6)).ext hEw7)).ext hEw8)
  have hK2 := (((((((((((((((hg1.ext hEw1)).ext hEw2)).ext hEw3)).ext hEw4)).chg hCw5 (fun hs => by have h : _ = _ := hs; omega))).ext hEw6)).ext hEw7)).ext hEw8)
  have hK3 := (((((((((((((((hg2.ext hEw1)).ext hEw2)).ext hEw3)).ext hEw4)).chg hCw5 (fun hs => by have h : _ = _ := hs; omega))).ext hEw6)).ext hEw7)).ext hEw8)
  refine wpF_step (op_call (some 36) (c_Fresh m _ (by omega) (by omega) hK1 hK2 hK3) ?_)
  rintro _ w9 ⟨rfl, hEw9⟩
  have hzw9 := hEw9.size
  refine wpF_run 3 [(38, (vI 0)), (37, (vA (celC (freC m)))), (34, (.tuple #[(vA (celC (freC m))), (vI 0)]))] (wpF_step (op_new (some 8) (Instr.alloc 30 true (.tuple #[])) (vP w9.heap.size 0) (celC Cel.zero) 30 ?_))
  intro w10 hBw10 hEw10
  have hzw10 := hEw10.size; have hlw10 := hBw10.lt
  refine wpF_step (op_store 30 w9.heap.size 0 30 (vA (celC (freC m))) (celC Cel.zero) (celC (freC m)) hBw10 (by rw [celC_len]; kernel_rfl) (by first | (simp; done) | (simp; omega)) (celC_one _) ?_)
  intro w11 hBw11 hCw11
  have hzw11 := hCw11.size
  rw [setFrom_all _ _ (by simp)] at hBw11
  refine wpF_run 1 [(7, (vI 0))] (wpF_end (then_code (wpC_seq (wpC_seq (wpC_region (wpF_run 1 [(39, (vI m))] (wpF_step (op_b (some 40) (decide (((m : Nat) : Int) < ((1 : Nat) : Int))) false (cmpDF (by omega)) ?_))))))))
  refine wpF_run 2 [(42, (vI m)), (41, vF)] (wpF_step (op_b (some 43) (decide (((m : Nat) : Int) > ((4096 : Nat) : Int))) false (cmpDF (by omega)) ?_))
  refine wpF_run 1 [(44, vF)] (wpF_end (then_code (wpC_false (wpC_skip (then_code (wpC_seq (wpC_region (wpF_run 3 [(57, vT), (56, vT), (55, (vI 0))] ?_))))))))
  have hK4 := (((((hK1.ext hEw9)).ext hEw10)).chg hCw11 (fun hs => by have h : _ = _ := hs; omega))
  have hK5 := (((((hK2.ext hEw9)).ext hEw10)).chg hCw11 (fun hs => by have h : _ = _ := hs; omega))
  have hK6 := (((((hK3.ext hEw9)).ext hEw10)).chg hCw11 (fun hs => by have h : _ = _ := hs; omega))
  refine wpF_step (op_call (some 58) (c_lives15 _ hK4 hK5 hK6) ?_)
  rintro _ w12 ⟨rfl, hEw12⟩
  have hzw12 := hEw12.size
  refine wpF_run 2 [(4, vT), (59, vT)] (wpF_end (then_code (wpC_ret (body_rets vT ?_))))
  have hX1 : Ext w w12 := ((Ext.own ((((((Ext.own (((hEw1.trans hEw2).trans hEw3).trans hEw4) hCw5 (by omega)).trans hEw6).trans hEw7).trans hEw8).trans hEw9).trans hEw10) hCw11 (by omega)).trans hEw12)
  exact ⟨rfl, hX1⟩

theorem c_CFr1 (k : Nat) (m : Int)  (w : World) (hp0 : k < 65536) (hp1 : ¬ (1 ≤ m ∧ m ≤ 4096)) (hg0 : Gl 0 [vI 45, vI 33] w) (hg1 : Gl 1 (w8C iniA) w) (hg2 : Gl 2 (w64C kA) w) :
    Calls Tryd.prog 3 #[(vA [(vH k)]), (.int .i64 m)] w (Ret fun r w' => r = vT ∧ Ext w w') := by
  refine calls_of (n := 60) (σ := [(0, (vA [(vH k)])), (1, (.int .i64 m))]) Tryd.func3 rfl ?_
  have hgl0 := hg0.lt
  have hgl1 := hg1.lt
  have hgl2 := hg2.lt
  have hn1 : 1 ≤ nof k ∧ nof k ≤ 4096 := by unfold nof; omega
  have h5 := hgt_le (nof k)
  refine wpC_seq (wpC_region (wpF_step (op_new (some 2) (Instr.box 24 (vA [(vH k)])) (vP w.heap.size 0) ([(vH k)]) 24 ?_)))
  intro w1 hBw1 hEw1
  have hzw1 := hEw1.size; have hlw1 := hBw1.lt
  refine wpF_run 1 [(4, vF)] (wpF_end (then_code (wpC_seq (wpC_region (wpF_step (op_v (some 9) (Instr.loadAt 24 (vP w.heap.size 0)) (vA [(vH k)]) (rn_lda (vs := [(vH k)]) (hBw1.all)) ?_))))))
  refine wpF_step (op_call (some 10) (c_NOf k _ (by omega)) ?_)
  rintro _ w2 ⟨rfl, hEw2⟩
  have hzw2 := hEw2.size
  refine wpF_run 1 [(5, (vI (nof k)))] (wpF_end (then_code (wpC_seq (wpC_region (wpF_run 1 [(12, (vI (nof k)))] (wpF_step (op_call (some 13) (c_Fresh (nof k) _ (by omega) (by omega) (((hg0.ext hEw1)).ext hEw2) (((hg1.ext hEw1)).ext hEw2) (((hg2.ext hEw1)).ext hEw2)) ?_)))))))
  rintro _ w3 ⟨rfl, hEw3⟩
  have hzw3 := hEw3.size
  refine wpF_run 3 [(15, (vI 0)), (14, (vA (celC (freC (nof k))))), (11, (.tuple #[(vA (celC (freC (nof k)))), (vI 0)]))] (wpF_step (op_new (some 6) (Instr.alloc 30 true (.tuple #[])) (vP w3.heap.size 0) (celC Cel.zero) 30 ?_))
  intro w4 hBw4 hEw4
  have hzw4 := hEw4.size; have hlw4 := hBw4.lt
  refine wpF_step (op_store 30 w3.heap.size 0 30 (vA (celC (freC (nof k)))) (celC Cel.zero) (celC (freC (nof k))) hBw4 (by rw [celC_len]; kernel_rfl) (by first | (simp; done) | (simp; omega)) (celC_one _) ?_)
  intro w5 hBw5 hCw5
  have hzw5 := hCw5.size
  rw [setFrom_all _ _ (by simp)] at hBw5
  refine wpF_run 1 [(7, (vI 0))] (wpF_end (then_code (wpC_seq (wpC_seq (wpC_drawM (Ext w5.drew) 18 [(17, 128, 0), (18, 65536, 1), (19, 131072, 2), (20, 262208, 4), (21, 262176, 4), (22, 1310720, 20), (23, 2883584, 44), (24, 4456448, 68), (25, 8388608, 160), (26, 16777280, 256), (27, 50331648, 768), (28, 83886080, 1280), (29, 150994944, 2304), (30, 268435456, 5120), (31, 536870944, 8192), (32, 1610612736, 24576), (33, 2684354560, 40960), (34, 4831838208, 73728)] (fun hT110 => ?_))))))
  have hEw6 : Ext w5 w5.drew := Ext.drew w5
  generalize w5.drew = w6 at hEw6 ⊢
  have hzw6 := hEw6.size
  refine anyM_run hT110 [(0, 16, (vI 0)), (1, 17, vF), (2, 18, vF)] 3 7 (anyM_take hT110 3 15 (some 19) (vA (celC (freC (nof k)))) (yld_val (Instr.loadAt 30 (vP w3.heap.size 0)) (fun w' hC => rn_lda (vs := celC (freC (nof k))) (((hBw5.ext hEw6).ext hC).all) (by rw [celC_len]; kernel_rfl))) (anyM_run hT110 [(4, 20, (vI (nof k)))] 1 31 (anyM_one 5 63 (op_call (some 21) (c_rFresh (nof k) _ (by omega) (by omega)) ?_))))
  rintro _ w7 ⟨rfl, hEw7⟩
  have hzw7 := hEw7.size
  refine ⟨.inr hEw7, ?_⟩
  refine anyM_take (hw := show Ext w6 w7 from hEw7) hT110 6 127 (some 22) vF (yld_val (bo .neq 30 (.tmp 19) (.tmp 21) (vA (celC (freC (nof k)))) (vA (celC (freC (nof k))))) (fun w' hC => run_neqAgg (r := true) (T := 30) ((run_eq_cel (dd := 9997) (t := 30) (td := 27) (e := 5) (t64 := 28) (freC (nof k)) (freC (nof k))).trans (congrArg (fun b => Result.ok b _) (show ((freC (nof k)).eqb (freC (nof k))) = true from cel_eqb_self _))))) (anyM_run (hw := show Ext w6 w7 from hEw7) hT110 [(7, 23, vF), (8, 24, vF)] 2 511 (anyM_take (hw := show Ext w6 w7 from hEw7) hT110 9 1023 (some 25) (vA (celC (freC (nof k)))) (yld_val (Instr.loadAt 30 (vP w3.heap.size 0)) (fun w' hC => rn_lda (vs := celC (freC (nof k))) (((hBw5.ext hEw6).ext hC).all) (by rw [celC_len]; kernel_rfl))) (anyM_one 10 2047 (op_call (some 26) (c_CSlot (freC (nof k)) _) ?_))))
  rintro _ w8 ⟨rfl, hEw8⟩
  have hzw8 := hEw8.size
  rw [show (freC (nof k)).ep % 2 = 0 from rfl]
  refine ⟨.inr (hEw7.trans hEw8), ?_⟩
  refine anyM_run (hw := show Ext w6 w8 from (hEw7.trans hEw8)) hT110 [(11, 27, vF), (12, 28, vF), (13, 29, vF), (14, 30, (vI (nof k)))] 4 32767 (anyM_take (hw := show Ext w6 w8 from (hEw7.trans hEw8)) hT110 15 65535 (some 31) (vI (hgt (nof k))) (yld_call (f := 13) (args := #[(vI (nof k))]) (fun w' hC => c_rHeight (nof k) _ (by omega) (by omega))) (anyM_take (hw := show Ext w6 w8 from (hEw7.trans hEw8)) hT110 16 131071 (some 32) vF (yld_b (decide (((hgt (nof k) : Nat) : Int) > ((5 : Nat) : Int))) (cmpDF (by omega))) (anyM_run (hw := show Ext w6 w8 from (hEw7.trans hEw8)) hT110 [(17, 33, vF)] 1 262143 (anyM_done (then_code (wpC_false (wpC_skip (then_code (wpC_seq ?_)))))))))
  refine wpC_region (wpF_run 1 [(35, (.int .i64 m))] (wpF_step (op_call (some 36) (c_FreshBad m _ (by omega)) ?_)))
  rintro _ w9 ⟨rfl, hEw9⟩
  have hzw9 := hEw9.size
  refine wpF_run 3 [(38, (vI 1)), (37, (vA (celC Cel.zero))), (34, (.tuple #[(vA (celC Cel.zero)), (vI 1)]))] (wpF_step (op_new (some 8) (Instr.alloc 30 true (.tuple #[])) (vP w9.heap.size 0) (celC Cel.zero) 30 ?_))
  intro w10 hBw10 hEw10
  have hzw10 := hEw10.size; have hlw10 := hBw10.lt
  refine wpF_step (op_store 30 w9.heap.size 0 30 (vA (celC Cel.zero)) (celC Cel.zero) (celC Cel.zero) hBw10 (by rw [celC_len]; kernel_rfl) (by first | (simp; done) | (simp; omega)) (celC_one _) ?_)
  intro w11 hBw11 hCw11
  have hzw11 := hCw11.size
  rw [setFrom_all _ _ (by simp)] at hBw11
  refine wpF_run 1 [(7, (vI 1))] (wpF_end (then_code (wpC_seq (wpC_seq (wpC_region (wpF_run 1 [(39, (.int .i64 m))] (wpF_step (op_split (some 40) (decide (m < ((1 : Nat) : Int))) (fun hc40 => ?_) (fun hc40 => ?_)))))))))
  · replace hc40 : m < ((1 : Nat) : Int) := by have := of_d_t hc40; omega
    refine wpF_run 4 [(44, vT), (43, undef), (42, undef), (41, vT)] (wpF_end (then_code (wpC_true (wpC_seq (wpC_region (wpF_run 3 [(47, vT), (46, vT), (45, (vI 1))] (wpF_step (op_v (some 48) (Instr.loadAt 30 (vP w9.heap.size 0)) (vA (celC Cel.zero)) (rn_lda (vs := celC Cel.zero) (hBw11.all) (by rw [celC_len]; kernel_rfl)) ?_))))))))
    refine wpF_run 1 [(49, (vA (celC Cel.zero)))] (wpF_step (op_v (some 50) (bo .eql 30 (.tmp 48) (.tmp 49) (vA (celC Cel.zero)) (vA (celC Cel.zero))) vT (run_eqlAgg (r := true) (T := 30) ((run_eq_cel (dd := 9997) (t := 30) (td := 27) (e := 5) (t64 := 28) Cel.zero Cel.zero).trans (congrArg (fun b => Result.ok b _) (show (Cel.zero.eqb Cel.zero) = true from cel_eqb_self _)))) ?_))
    refine wpF_run 2 [(52, vT), (51, vT)] ?_
    have hK1 := (((((((((((((((((((((hg0.ext hEw1)).ext hEw2)).ext hEw3)).ext hEw4)).chg hCw5 (fun hs => by have h : _ = _ := hs; omega))).ext hEw6)).ext hEw7)).ext hEw8)).ext hEw9)).ext hEw10)).chg hCw11 (fun hs => by have h : _ = _ := hs; omega))
    have hK2 := (((((((((((((((((((((hg1.ext hEw1)).ext hEw2)).ext hEw3)).ext hEw4)).chg hCw5 (fun hs => by have h : _ = _ := hs; omega))).ext hEw6)).ext hEw7)).ext hEw8)).ext hEw9)).ext hEw10)).chg hCw11 (fun hs => by have h : _ = _ := hs; omega))
    have hK3 := (((((((((((((((((((((hg2.ext hEw1)).ext hEw2)).ext hEw3)).ext hEw4)).chg hCw5 (fun hs => by have h : _ = _ := hs; omega))).ext hEw6)).ext hEw7)).ext hEw8)).ext hEw9)).ext hEw10)).chg hCw11 (fun hs => by have h : _ = _ := hs; omega))
    refine wpF_step (op_call (some 53) (c_lives15 _ hK1 hK2 hK3) ?_)
    rintro _ w12 ⟨rfl, hEw12⟩
    have hzw12 := hEw12.size
    refine wpF_run 2 [(4, vT), (54, vT)] (wpF_end (then_code (wpC_ret (then_ret (body_rets vT ?_)))))
    have hX1 : Ext w w12 := ((Ext.own ((((((Ext.own (((hEw1.trans hEw2).trans hEw3).trans hEw4) hCw5 (by omega)).trans hEw6).trans hEw7).trans hEw8).trans hEw9).trans hEw10) hCw11 (by omega)).trans hEw12)
    exact ⟨rfl, hX1⟩
  · replace hc40 : ¬ (m < ((1 : Nat) : Int)) := by have := of_d_f hc40; omega
    refine wpF_run 2 [(42, (.int .i64 m)), (41, vF)] (wpF_step (op_b (some 43) (decide (m > ((4096 : Nat) : Int))) true (cmpDT (by omega)) ?_))
    refine wpF_run 1 [(44, vT)] (wpF_end (then_code (wpC_true (wpC_seq (wpC_region (wpF_run 3 [(47, vT), (46, vT), (45, (vI 1))] (wpF_step (op_v (some 48) (Instr.loadAt 30 (vP w9.heap.size 0)) (vA (celC Cel.zero)) (rn_lda (vs := celC Cel.zero) (hBw11.all) (by rw [celC_len]; kernel_rfl)) ?_))))))))
    refine wpF_run 1 [(49, (vA (celC Cel.zero)))] (wpF_step (op_v (some 50) (bo .eql 30 (.tmp 48) (.tmp 49) (vA (celC Cel.zero)) (vA (celC Cel.zero))) vT (run_eqlAgg (r := true) (T := 30) ((run_eq_cel (dd := 9997) (t := 30) (td := 27) (e := 5) (t64 := 28) Cel.zero Cel.zero).trans (congrArg (fun b => Result.ok b _) (show (Cel.zero.eqb Cel.zero) = true from cel_eqb_self _)))) ?_))
    refine wpF_run 2 [(52, vT), (51, vT)] ?_
    have hK4 := (((((((((((((((((((((hg0.ext hEw1)).ext hEw2)).ext hEw3)).ext hEw4)).chg hCw5 (fun hs => by have h : _ = _ := hs; omega))).ext hEw6)).ext hEw7)).ext hEw8)).ext hEw9)).ext hEw10)).chg hCw11 (fun hs => by have h : _ = _ := hs; omega))
    have hK5 := (((((((((((((((((((((hg1.ext hEw1)).ext hEw2)).ext hEw3)).ext hEw4)).chg hCw5 (fun hs => by have h : _ = _ := hs; omega))).ext hEw6)).ext hEw7)).ext hEw8)).ext hEw9)).ext hEw10)).chg hCw11 (fun hs => by have h : _ = _ := hs; omega))
    have hK6 := (((((((((((((((((((((hg2.ext hEw1)).ext hEw2)).ext hEw3)).ext hEw4)).chg hCw5 (fun hs => by have h : _ = _ := hs; omega))).ext hEw6)).ext hEw7)).ext hEw8)).ext hEw9)).ext hEw10)).chg hCw11 (fun hs => by have h : _ = _ := hs; omega))
    refine wpF_step (op_call (some 53) (c_lives15 _ hK4 hK5 hK6) ?_)
    rintro _ w13 ⟨rfl, hEw13⟩
    have hzw13 := hEw13.size
    refine wpF_run 2 [(4, vT), (54, vT)] (wpF_end (then_code (wpC_ret (then_ret (body_rets vT ?_)))))
    have hX2 : Ext w w13 := ((Ext.own ((((((Ext.own (((hEw1.trans hEw2).trans hEw3).trans hEw4) hCw5 (by omega)).trans hEw6).trans hEw7).trans hEw8).trans hEw9).trans hEw10) hCw11 (by omega)).trans hEw13)
    exact ⟨rfl, hX2⟩

theorem c_CellsFresh (k : Nat) (m : Int)  (w : World) (hp0 : k < 65536) (hg0 : Gl 0 [vI 45, vI 33] w) (hg1 : Gl 1 (w8C iniA) w) (hg2 : Gl 2 (w64C kA) w) :
    Calls Tryd.prog 3 #[(vA [(vH k)]), (.int .i64 m)] w (Ret fun r w' => r = vT ∧ Ext w w') := by
  by_cases h : 1 ≤ m ∧ m ≤ 4096
  · obtain ⟨q, rfl⟩ := Int.eq_ofNat_of_zero_le (show 0 ≤ m by omega)
    exact c_CFr0 k q w hp0 (by omega) (by omega) hg0 hg1 hg2
  · exact c_CFr1 k m w hp0 h hg0 hg1 hg2


end Go.Proofs.YthjplefmfjkhfaaDoor
