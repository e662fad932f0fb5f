/- CsC1: what each function does, by its own code. No condition beyond those of each statement. -/
import Derived.Test.YthjplefmfjkhfaaDoorCsN12
import Derived.Test.YthjplefmfjkhfaaDoorCsCel
namespace Go.Proofs.YthjplefmfjkhfaaDoor
open Go Go.RowKit Go.Cs
set_option maxRecDepth 100000
set_option linter.all false
set_option linter.unusedVariables false

theorem c_Fresh (n : Nat)  (w : World) (hp0 : 1 ≤ n) (hp1 : n ≤ 4096) (hg0 : Gl 0 [vI 45, vI 33] w) (hg1 : Gl 1 (w8C iniA) w) (hg2 : Gl 2 (w64C kA) w) :
    Calls Tryd.prog 10 #[(vI n)] w (Ret fun r w' => r = (.tuple #[(vA (celC (freC n))), (vI 0)]) ∧ Ext w w') := by
  refine calls_of (n := 26) (σ := [(0, (vI n))]) Tryd.func10 rfl ?_
  have hgl0 := hg0.lt
  have hgl1 := hg1.lt
  have hgl2 := hg2.lt
  have h5 := hgt_le n
  refine wpC_seq (wpC_region (wpF_step (op_new (some 2) (Instr.alloc 30 true (.tuple #[])) (vP w.heap.size 0) (celC Cel.zero) 30 ?_)))
  intro w1 hBw1 hEw1
  have hzw1 := hEw1.size; have hlw1 := hBw1.lt
  refine wpF_run 1 [(3, (vI 0))] (wpF_end (then_code (wpC_seq (wpC_region (wpF_run 1 [(8, (vI n))] (wpF_step (op_call (some 9) (c_Height n _ (by omega) (by omega)) ?_)))))))
  rintro _ w2 ⟨rfl, hEw2⟩
  have hzw2 := hEw2.size
  refine wpF_run 5 [(5, (vI 0)), (4, (vI (hgt n))), (11, (vI 0)), (10, (vI (hgt n))), (7, (.tuple #[(vI (hgt n)), (vI 0)]))] (wpF_end (then_code (wpC_seq (wpC_seq (wpC_region (wpF_run 2 [(13, vF), (12, (vI 0))] (wpF_end (then_code (wpC_false ?_)))))))))
  refine wpC_skip (then_code (wpC_seq (wpC_region (wpF_run 1 [(17, (vI (hgt n)))] (wpF_step (op_in (some 18) .u8 (IntKind.u8.wrap ((hgt n : Nat) : Int)) (hgt n) (wrapUx rfl rfl (by show _ < 2 ^ 8; omega)) ?_))))))
  refine wpF_step (op_call (some 19) (c_Empty (hgt n) 0 _ (by omega) (by omega)) ?_)
  rintro _ w3 ⟨rfl, hEw3⟩
  have hzw3 := hEw3.size
  have hK1 := (((((hg0.ext hEw1)).ext hEw2)).ext hEw3)
  have hK2 := (((((hg1.ext hEw1)).ext hEw2)).ext hEw3)
  have hK3 := (((((hg2.ext hEw1)).ext hEw2)).ext hEw3)
  refine wpF_step (op_call (some 20) (c_NDigest (Nod.mt (hgt n) 0) _ (chkN_mt h5) hK1 hK2 hK3) ?_)
  rintro _ w4 ⟨rfl, hEw4⟩
  have hzw4 := hEw4.size
  refine wpF_run 3 [(22, (vI 0)), (21, (vA (digC (shaD (nodB (Nod.mt (hgt n) 0)))))), (16, (.tuple #[(vA (digC (shaD (nodB (Nod.mt (hgt n) 0))))), (vI 0)]))] (wpF_step (op_new (some 6) (Instr.alloc 27 true (.tuple #[])) (vP w4.heap.size 0) (digC Dig.zero) 27 ?_))
  intro w5 hBw5 hEw5
  have hzw5 := hEw5.size; have hlw5 := hBw5.lt
  refine wpF_step (op_store 27 w4.heap.size 0 27 (vA (digC (shaD (nodB (Nod.mt (hgt n) 0))))) (digC Dig.zero) (digC (shaD (nodB (Nod.mt (hgt n) 0)))) hBw5 (by rw [digC_len]; kernel_rfl) (by first | (simp; done) | (simp; omega)) (digC_one _) ?_)
  intro w6 hBw6 hCw6
  have hzw6 := hCw6.size
  rw [setFrom_all _ _ (by simp)] at hBw6
  refine wpF_run 1 [(5, (vI 0))] (wpF_end (then_code (wpC_seq (wpC_region (wpF_step (op_v (some 23) (Instr.loadAt 27 (vP w4.heap.size 0)) (vA (digC (shaD (nodB (Nod.mt (hgt n) 0))))) (rn_lda (vs := digC (shaD (nodB (Nod.mt (hgt n) 0)))) (hBw6.all) (by rw [digC_len]; kernel_rfl)) ?_))))))
  refine wpF_step (op_v (some 24) (Instr.build 30 #[(0, (vA (digC (shaD (nodB (Nod.mt (hgt n) 0))))))]) (vA (celC (freC n))) ((run_build_cel1 (shaD (nodB (Nod.mt (hgt n) 0)))).trans (congrArg (fun z : Cel => Result.ok (Value.agg (celC z).toArray) _) (show (⟨(shaD (nodB (Nod.mt (hgt n) 0))), 0, 0, by decide, by decide⟩ : Cel) = freC n from rfl))) ?_)
  refine wpF_run 1 [(25, (vI 0))] ?_
  have hK4 := (((((((((hBw1.ext hEw2)).ext hEw3)).ext hEw4)).ext hEw5)).chg hCw6 (fun hs => by have h : _ = _ := hs; omega))
  refine wpF_step (op_store 30 w.heap.size 0 30 (vA (celC (freC n))) (celC Cel.zero) (celC (freC n)) hK4 (by rw [celC_len]; kernel_rfl) (by first | (simp; done) | (simp; omega)) (celC_one _) ?_)
  have hK5 := (((((((((hBw1.ext hEw2)).ext hEw3)).ext hEw4)).ext hEw5)).chg hCw6 (fun hs => by have h : _ = _ := hs; omega))
  intro w7 hBw7 hCw7
  have hzw7 := hCw7.size
  rw [setFrom_all _ _ (by simp)] at hBw7
  refine wpF_run 1 [(3, (vI 0))] (wpF_end (then_code (wpC_ret (body_ret2 (show resVal Tryd.prog 26 _ _ (.cell 2 30) (vA (celC (freC n))) from ⟨⟨w.heap.size, 0, none⟩, (by kernel_rfl), run_loadVar_agg (T := 30) (vs := celC (freC n)) (hBw7).all (by rw [celC_len]; kernel_rfl)⟩) (show resVal Tryd.prog 26 _ _ (.tmp 3) (vI 0) by (show _ = _; kernel_rfl)) ?_))))
  have hX1 : Ext w w7 := (Ext.own (Ext.own ((((hEw1.trans hEw2).trans hEw3).trans hEw4).trans hEw5) hCw6 (by omega)) hCw7 (by omega))
  exact ⟨rfl, hX1⟩

theorem c_rFresh (n : Nat)  (w : World) (hp0 : 1 ≤ n) (hp1 : n ≤ 4096) :
    Calls Tryd.prog 11 #[(vI n)] w (Ret fun r w' => r = (vA (celC (freC n))) ∧ Ext w w') := by
  refine calls_of (n := 9) (σ := [(0, (vI n))]) Tryd.func11 rfl ?_
  have h5 := hgt_le n
  refine wpC_seq (wpC_region (wpF_step (op_new (some 2) (Instr.alloc 30 true (.tuple #[])) (vP w.heap.size 0) (celC Cel.zero) 30 ?_)))
  intro w1 hBw1 hEw1
  have hzw1 := hEw1.size; have hlw1 := hBw1.lt
  refine wpF_end (then_code (wpC_seq (wpC_region (wpF_run 1 [(3, (vI n))] (wpF_step (op_call (some 4) (c_rHeight n _ (by omega) (by omega)) ?_))))))
  rintro _ _ ⟨rfl, rfl⟩
  refine wpF_step (op_in (some 5) .u8 (IntKind.u8.wrap ((hgt n : Nat) : Int)) (hgt n) (wrapUx rfl rfl (by show _ < 2 ^ 8; omega)) ?_)
  refine wpF_step (op_v (some 6) (Instr.build 78 #[(0, (vB (hgt n)))]) (vA (nodC (Nod.mt (hgt n) 0))) ((run_build_nod1 (hgt n) (by omega)).trans (congrArg (fun z : Nod => Result.ok (Value.agg (nodC z).toArray) _) (show (Nod.emp (hgt n) 0 (by omega) (by decide) : Nod) = Nod.mt (hgt n) 0 from Nod.mt_eq _ _))) ?_)
  refine wpF_step (op_call (some 7) (c_rNDigest (Nod.mt (hgt n) 0) _) ?_)
  rintro _ w2 ⟨rfl, hEw2⟩
  have hzw2 := hEw2.size
  refine wpF_step (op_v (some 8) (Instr.build 30 #[(0, (vA (digC (shaD (nodB (Nod.mt (hgt n) 0))))))]) (vA (celC (freC n))) ((run_build_cel1 (shaD (nodB (Nod.mt (hgt n) 0)))).trans (congrArg (fun z : Cel => Result.ok (Value.agg (celC z).toArray) _) (show (⟨(shaD (nodB (Nod.mt (hgt n) 0))), 0, 0, by decide, by decide⟩ : Cel) = freC n from rfl))) ?_)
  refine wpF_step (op_store 30 w.heap.size 0 30 (vA (celC (freC n))) (celC Cel.zero) (celC (freC n)) (hBw1.ext hEw2) (by rw [celC_len]; kernel_rfl) (by first | (simp; done) | (simp; omega)) (celC_one _) ?_)
  intro w3 hBw3 hCw3
  have hzw3 := hCw3.size
  rw [setFrom_all _ _ (by simp)] at hBw3
  exact wpF_end (then_code (wpC_ret (body_ret1 (show resVal Tryd.prog 9 _ _ (.cell 2 30) (vA (celC (freC n))) from ⟨⟨w.heap.size, 0, none⟩, (by kernel_rfl), run_loadVar_agg (T := 30) (vs := celC (freC n)) (hBw3).all (by rw [celC_len]; kernel_rfl)⟩) (⟨rfl, (Ext.own (hEw1.trans hEw2) hCw3 (by omega))⟩))))

theorem c_CSlot (a : Cel)  (w : World)  :
    Calls Tryd.prog 12 #[(vA (celC a))] w (Ret fun r w' => r = (vI (a.ep % 2)) ∧ Ext w w') := by
  refine calls_of (n := 7) (σ := [(0, (vA (celC a)))]) Tryd.func12 rfl ?_
  refine wpC_seq (wpC_region (wpF_step (op_new (some 1) (Instr.box 30 (vA (celC a))) (vP w.heap.size 0) (celC a) 30 ?_)))
  intro w1 hBw1 hEw1
  have hzw1 := hEw1.size; have hlw1 := hBw1.lt
  refine wpF_run 1 [(2, (vI 0))] (wpF_end (then_code (wpC_seq (wpC_region (wpF_run 1 [(3, (vP w.heap.size 32))] (wpF_step (op_v (some 4) (Instr.loadAt 28 (vP w.heap.size 32)) (vQ a.ep) (rn_ld (hBw1.cell (cel_ep _))) ?_)))))))
  refine wpF_step (op_in (some 5) .u64 (((a.ep : Nat) : Int).tmod ((2 : Nat) : Int)) (a.ep % 2) (tmodN _ _) ?_)
  refine wpF_step (op_in (some 6) .i64 (IntKind.i64.wrap ((a.ep % 2 : Nat) : Int)) (a.ep % 2) (wrapS rfl (by omega) (by omega)) ?_)
  exact wpF_run 1 [(2, (vI (a.ep % 2)))] (wpF_end (then_code (wpC_ret (body_rets (vI (a.ep % 2)) (⟨rfl, hEw1⟩)))))

theorem c_CNext (a : Cel) (d : Dig)  (w : World) (hp0 : a.ep ≠ 2 ^ 64 - 1) :
    Calls Tryd.prog 15 #[(vA (celC a)), (vA (digC d))] w (Ret fun r w' => r = (.tuple #[(vA (celC (a.nxt d))), (vI 0)]) ∧ Ext w w') := by
  refine calls_of (n := 17) (σ := [(0, (vA (celC a))), (1, (vA (digC d)))]) Tryd.func15 rfl ?_
  have hea := a.hep
  refine wpC_seq (wpC_region (wpF_step (op_new (some 2) (Instr.box 30 (vA (celC a))) (vP w.heap.size 0) (celC a) 30 ?_)))
  intro w1 hBw1 hEw1
  have hzw1 := hEw1.size; have hlw1 := hBw1.lt
  refine wpF_step (op_new (some 3) (Instr.box 27 (vA (digC d))) (vP w1.heap.size 0) (digC d) 27 ?_)
  intro w2 hBw2 hEw2
  have hzw2 := hEw2.size; have hlw2 := hBw2.lt
  refine wpF_step (op_new (some 4) (Instr.alloc 30 true (.tuple #[])) (vP w2.heap.size 0) (celC Cel.zero) 30 ?_)
  intro w3 hBw3 hEw3
  have hzw3 := hEw3.size; have hlw3 := hBw3.lt
  refine wpF_run 1 [(5, (vI 0))] (wpF_end (then_code (wpC_seq (wpC_seq (wpC_region (wpF_run 1 [(6, (vP w.heap.size 32))] (wpF_step (op_v (some 7) (Instr.loadAt 28 (vP w.heap.size 32)) (vQ a.ep) (rn_ld ((((hBw1.ext hEw2)).ext hEw3).cell (cel_ep _))) ?_))))))))
  refine wpF_step (op_b (some 8) (((a.ep : Nat) : Int) == ((18446744073709551615 : Nat) : Int)) false (cmpEqF (by omega)) ?_)
  refine wpF_end (then_code (wpC_false (wpC_skip (then_code (wpC_seq (wpC_region (wpF_run 1 [(10, (vP w.heap.size 32))] (wpF_step (op_v (some 11) (Instr.loadAt 28 (vP w.heap.size 32)) (vQ a.ep) (rn_ld ((((hBw1.ext hEw2)).ext hEw3).cell (cel_ep _))) ?_)))))))))
  refine wpF_step (op_in (some 12) .u64 (IntKind.u64.wrap (((a.ep : Nat) : Int) + ((1 : Nat) : Int))) ((a.ep + 1) % 2 ^ 64) (wrapU rfl (by simp)) ?_)
  refine wpF_run 1 [(13, (vP w.heap.size 32))] (wpF_step (op_store1 28 w.heap.size 32 30 (vQ ((a.ep + 1) % 2 ^ 64)) (celC a) (((hBw1.ext hEw2)).ext hEw3) (by first | decide | (simp; done) | (simp; omega)) ?_))
  intro w4 hBw4 hCw4
  have hzw4 := hCw4.size
  rw [show ((celC a).set 32 (vQ ((a.ep + 1) % 2 ^ 64)) : List Value) = celC (a.setEp ((a.ep + 1) % 2 ^ 64) (Nat.mod_lt _ (by decide))) from cel_setEp (Nat.mod_lt _ (by decide))] at hBw4
  refine wpF_end (then_code (wpC_seq (wpC_region (wpF_step (op_v (some 14) (Instr.loadAt 27 (vP w1.heap.size 0)) (vA (digC d)) (rn_lda (vs := digC d) ((((hBw2.ext hEw3)).chg hCw4 (fun hs => by have h : _ = _ := hs; omega)).all) (by rw [digC_len]; kernel_rfl)) ?_)))))
  refine wpF_run 1 [(15, (vP w.heap.size 0))] (wpF_step (op_store 27 w.heap.size 0 30 (vA (digC d)) (celC (a.setEp ((a.ep + 1) % 2 ^ 64) (Nat.mod_lt _ (by decide)))) (digC d) hBw4 (by rw [digC_len]; kernel_rfl) (by first | (simp; done) | (simp; omega)) (digC_one _) ?_))
  intro w5 hBw5 hCw5
  have hzw5 := hCw5.size
  rw [show (setFrom (celC (a.setEp ((a.ep + 1) % 2 ^ 64) (Nat.mod_lt _ (by decide)))) 0 (digC d) : List Value) = celC ((a.setEp ((a.ep + 1) % 2 ^ 64) (Nat.mod_lt _ (by decide))).setRoot d) from cel_setRoot] at hBw5
  refine wpF_end (then_code (wpC_seq (wpC_region (wpF_step (op_v (some 16) (Instr.loadAt 30 (vP w.heap.size 0)) (vA (celC ((a.setEp ((a.ep + 1) % 2 ^ 64) (Nat.mod_lt _ (by decide))).setRoot d))) (rn_lda (vs := celC ((a.setEp ((a.ep + 1) % 2 ^ 64) (Nat.mod_lt _ (by decide))).setRoot d)) (hBw5.all) (by rw [celC_len]; kernel_rfl)) ?_)))))
  refine wpF_step (op_store 30 w2.heap.size 0 30 (vA (celC ((a.setEp ((a.ep + 1) % 2 ^ 64) (Nat.mod_lt _ (by decide))).setRoot d))) (celC Cel.zero) (celC ((a.setEp ((a.ep + 1) % 2 ^ 64) (Nat.mod_lt _ (by decide))).setRoot d)) ((((hBw3).chg hCw4 (fun hs => by have h : _ = _ := hs; omega))).chg hCw5 (fun hs => by have h : _ = _ := hs; omega)) (by rw [celC_len]; kernel_rfl) (by first | (simp; done) | (simp; omega)) (celC_one _) ?_)
  intro w6 hBw6 hCw6
  have hzw6 := hCw6.size
  rw [setFrom_all _ _ (by simp)] at hBw6
  refine wpF_run 1 [(5, (vI 0))] (wpF_end (then_code (wpC_ret (body_ret2 (show resVal Tryd.prog 17 _ _ (.cell 4 30) (vA (celC ((a.setEp ((a.ep + 1) % 2 ^ 64) (Nat.mod_lt _ (by decide))).setRoot d))) from ⟨⟨w2.heap.size, 0, none⟩, (by kernel_rfl), run_loadVar_agg (T := 30) (vs := celC ((a.setEp ((a.ep + 1) % 2 ^ 64) (Nat.mod_lt _ (by decide))).setRoot d)) (hBw6).all (by rw [celC_len]; kernel_rfl)⟩) (show resVal Tryd.prog 17 _ _ (.tmp 5) (vI 0) by (show _ = _; kernel_rfl)) ?_))))
  have hX1 : Ext w w6 := (Ext.own (Ext.own (Ext.own ((hEw1.trans hEw2).trans hEw3) hCw4 (by omega)) hCw5 (by omega)) hCw6 (by omega))
  exact ⟨rfl, hX1⟩

theorem c_CNextBad (a : Cel) (d : Dig)  (w : World) (hp0 : a.ep = 2 ^ 64 - 1) :
    Calls Tryd.prog 15 #[(vA (celC a)), (vA (digC d))] w (Ret fun r w' => r = (.tuple #[(vA (celC Cel.zero)), (vI 3)]) ∧ Ext w w') := by
  refine calls_of (n := 17) (σ := [(0, (vA (celC a))), (1, (vA (digC d)))]) Tryd.func15 rfl ?_
  have hea := a.hep
  refine wpC_seq (wpC_region (wpF_step (op_new (some 2) (Instr.box 30 (vA (celC a))) (vP w.heap.size 0) (celC a) 30 ?_)))
  intro w1 hBw1 hEw1
  have hzw1 := hEw1.size; have hlw1 := hBw1.lt
  refine wpF_step (op_new (some 3) (Instr.box 27 (vA (digC d))) (vP w1.heap.size 0) (digC d) 27 ?_)
  intro w2 hBw2 hEw2
  have hzw2 := hEw2.size; have hlw2 := hBw2.lt
  refine wpF_step (op_new (some 4) (Instr.alloc 30 true (.tuple #[])) (vP w2.heap.size 0) (celC Cel.zero) 30 ?_)
  intro w3 hBw3 hEw3
  have hzw3 := hEw3.size; have hlw3 := hBw3.lt
  refine wpF_run 1 [(5, (vI 0))] (wpF_end (then_code (wpC_seq (wpC_seq (wpC_region (wpF_run 1 [(6, (vP w.heap.size 32))] (wpF_step (op_v (some 7) (Instr.loadAt 28 (vP w.heap.size 32)) (vQ a.ep) (rn_ld ((((hBw1.ext hEw2)).ext hEw3).cell (cel_ep _))) ?_))))))))
  refine wpF_step (op_b (some 8) (((a.ep : Nat) : Int) == ((18446744073709551615 : Nat) : Int)) true (cmpEqT (by omega)) ?_)
  refine wpF_end (then_code (wpC_true (wpC_seq (wpC_region (wpF_run 1 [(9, (vA (celC Cel.zero)))] (wpF_step (op_store 30 w2.heap.size 0 30 (vA (celC Cel.zero)) (celC Cel.zero) (celC Cel.zero) hBw3 (by rw [celC_len]; kernel_rfl) (by first | (simp; done) | (simp; omega)) (celC_one _) ?_)))))))
  intro w4 hBw4 hCw4
  have hzw4 := hCw4.size
  rw [setFrom_all _ _ (by simp)] at hBw4
  refine wpF_run 1 [(5, (vI 3))] (wpF_end (then_code (wpC_ret (then_ret (body_ret2 (show resVal Tryd.prog 17 _ _ (.cell 4 30) (vA (celC Cel.zero)) from ⟨⟨w2.heap.size, 0, none⟩, (by kernel_rfl), run_loadVar_agg (T := 30) (vs := celC Cel.zero) (hBw4).all (by rw [celC_len]; kernel_rfl)⟩) (show resVal Tryd.prog 17 _ _ (.tmp 5) (vI 3) by (show _ = _; kernel_rfl)) ?_)))))
  have hX1 : Ext w w4 := (Ext.own ((hEw1.trans hEw2).trans hEw3) hCw4 (by omega))
  exact ⟨rfl, hX1⟩


end Go.Proofs.YthjplefmfjkhfaaDoor
