/- CsR3: what each function does, by its own code. No condition beyond those of each statement. -/
import Derived.Test.YtpcbhalagllhnaaDoorCsR2
namespace Go.Proofs.YtpcbhalagllhnaaDoor
open Go Go.RowKit Go.Cs
set_option maxRecDepth 100000
set_option linter.all false
set_option linter.unusedVariables false

theorem c_GetEntryShort {lo_l hi_l : Nat} {a_l : Option Addr} {n_l c_l : Nat} {l : List UInt8}  (w : World) (h_l : Bs lo_l hi_l w a_l n_l c_l l) (hp0 : n_l < 33) :
    Calls Tryd.prog 48 #[(.slice a_l n_l c_l)] w (Ret fun r w' => r = (.tuple #[(vA (entC Ent.zero)), (vI 6)]) ∧ Ext w w') := by
  refine calls_of (n := 35) (σ := [(0, (.slice a_l n_l c_l))]) Tryd.func48 rfl ?_
  replace h_l := h_l.now; have hle_l := h_l.le
  refine wpC_seq (wpC_region (wpF_step (op_new (some 2) (Instr.alloc 38 true (.tuple #[])) (vP w.heap.size 0) (entC Ent.zero) 38 ?_)))
  intro w1 hBw1 hEw1
  have hzw1 := hEw1.size; have hlw1 := hBw1.lt
  refine wpF_run 1 [(3, (vI 0))] (wpF_end (then_code (wpC_seq (wpC_region (wpF_run 1 [(10, (.slice a_l n_l c_l))] (wpF_step (op_call (some 11) (c_readShort 33 _ (h_l.ext hEw1) (by first | omega | decide)) ?_)))))))
  rintro _ w2 ⟨rfl, hEw2⟩
  have hzw2 := hEw2.size
  refine wpF_run 5 [(5, (vI 6)), (4, .nilFunc), (13, (vI 6)), (12, .nilFunc), (9, (.tuple #[.nilFunc, (vI 6)]))] (wpF_end (then_code (wpC_seq (wpC_seq (wpC_region (wpF_run 2 [(15, vT), (14, (vI 6))] (wpF_end (then_code (wpC_true ?_)))))))))
  refine wpC_seq (wpC_region (wpF_run 2 [(17, (vI 6)), (16, (vA (entC Ent.zero)))] (wpF_step (op_store 38 w.heap.size 0 38 (vA (entC Ent.zero)) (entC Ent.zero) (entC Ent.zero) (hBw1.ext hEw2) (by rw [entC_len]; kernel_rfl) (by simp) (entC_one _) ?_))))
  intro w3 hBw3 hCw3
  have hzw3 := hCw3.size
  rw [setFrom_all _ _ (by simp)] at hBw3
  exact wpF_run 1 [(3, (vI 6))] (wpF_end (then_code (wpC_ret (then_ret (body_ret2 (show resVal Tryd.prog 35 _ _ (.cell 2 38) (vA (entC Ent.zero)) from ⟨⟨w.heap.size, 0, none⟩, (by kernel_rfl), run_loadVar_agg (T := 38) (vs := entC Ent.zero) (hBw3).all (by rw [entC_len]; kernel_rfl)⟩) (show resVal Tryd.prog 35 _ _ (.tmp 3) (vI 6) by (show _ = _; kernel_rfl)) (⟨rfl, (Ext.own (hEw1.trans hEw2) hCw3 (by omega))⟩))))))

theorem c_GetEntryLong {lo_l hi_l : Nat} {a_l : Option Addr} {n_l c_l : Nat} {l : List UInt8}  (w : World) (h_l : Bs lo_l hi_l w a_l n_l c_l l) (hp0 : 33 < n_l) :
    Calls Tryd.prog 48 #[(.slice a_l n_l c_l)] w (Ret fun r w' => r = (.tuple #[(vA (entC Ent.zero)), (vI 5)]) ∧ Ext w w') := by
  refine calls_of (n := 35) (σ := [(0, (.slice a_l n_l c_l))]) Tryd.func48 rfl ?_
  replace h_l := h_l.now; have hle_l := h_l.le
  refine wpC_seq (wpC_region (wpF_step (op_new (some 2) (Instr.alloc 38 true (.tuple #[])) (vP w.heap.size 0) (entC Ent.zero) 38 ?_)))
  intro w1 hBw1 hEw1
  have hzw1 := hEw1.size; have hlw1 := hBw1.lt
  refine wpF_run 1 [(3, (vI 0))] (wpF_end (then_code (wpC_seq (wpC_region (wpF_run 1 [(10, (.slice a_l n_l c_l))] (wpF_step (op_call (some 11) (c_readLong 33 _ (h_l.ext hEw1) (by first | omega | decide)) ?_)))))))
  rintro _ w2 ⟨rfl, hEw2⟩
  have hzw2 := hEw2.size
  refine wpF_run 5 [(5, (vI 5)), (4, .nilFunc), (13, (vI 5)), (12, .nilFunc), (9, (.tuple #[.nilFunc, (vI 5)]))] (wpF_end (then_code (wpC_seq (wpC_seq (wpC_region (wpF_run 2 [(15, vT), (14, (vI 5))] (wpF_end (then_code (wpC_true ?_)))))))))
  refine wpC_seq (wpC_region (wpF_run 2 [(17, (vI 5)), (16, (vA (entC Ent.zero)))] (wpF_step (op_store 38 w.heap.size 0 38 (vA (entC Ent.zero)) (entC Ent.zero) (entC Ent.zero) (hBw1.ext hEw2) (by rw [entC_len]; kernel_rfl) (by simp) (entC_one _) ?_))))
  intro w3 hBw3 hCw3
  have hzw3 := hCw3.size
  rw [setFrom_all _ _ (by simp)] at hBw3
  exact wpF_run 1 [(3, (vI 5))] (wpF_end (then_code (wpC_ret (then_ret (body_ret2 (show resVal Tryd.prog 35 _ _ (.cell 2 38) (vA (entC Ent.zero)) from ⟨⟨w.heap.size, 0, none⟩, (by kernel_rfl), run_loadVar_agg (T := 38) (vs := entC Ent.zero) (hBw3).all (by rw [entC_len]; kernel_rfl)⟩) (show resVal Tryd.prog 35 _ _ (.tmp 3) (vI 5) by (show _ = _; kernel_rfl)) (⟨rfl, (Ext.own (hEw1.trans hEw2) hCw3 (by omega))⟩))))))

theorem c_GetEntry {lo_l hi_l : Nat} {a_l : Option Addr} {n_l c_l : Nat} {l : List UInt8}  (w : World) (h_l : Bs lo_l hi_l w a_l n_l c_l l) (hp0 : n_l = 33) (hp1 : chkE (Ent.of l) = 0) :
    Calls Tryd.prog 48 #[(.slice a_l n_l c_l)] w (Ret fun r w' => r = (.tuple #[(vA (entC (Ent.of l))), (vI 0)]) ∧ Ext w w') := by
  refine calls_of (n := 35) (σ := [(0, (.slice a_l n_l c_l))]) Tryd.func48 rfl ?_
  replace h_l := h_l.now; have hle_l := h_l.le
  refine wpC_seq (wpC_region (wpF_step (op_new (some 2) (Instr.alloc 38 true (.tuple #[])) (vP w.heap.size 0) (entC Ent.zero) 38 ?_)))
  intro w1 hBw1 hEw1
  have hzw1 := hEw1.size; have hlw1 := hBw1.lt
  refine wpF_run 1 [(3, (vI 0))] (wpF_end (then_code (wpC_seq (wpC_region (wpF_run 1 [(10, (.slice a_l n_l c_l))] (wpF_step (op_call (some 11) (c_read 33 _ (h_l.ext hEw1) (by first | omega | decide)) ?_)))))))
  rintro _ w2 ⟨a1, rfl, hFz1_0, hFz1_1, hEw2⟩
  have hzw2 := hEw2.size
  have hla1 := hFz1_1.lt
  refine wpF_run 5 [(5, (vI 0)), (4, (.func (.func 74) #[(vP a1 0)] #[])), (13, (vI 0)), (12, (.func (.func 74) #[(vP a1 0)] #[])), (9, (.tuple #[(.func (.func 74) #[(vP a1 0)] #[]), (vI 0)]))] (wpF_end (then_code (wpC_seq (wpC_seq (wpC_region (wpF_run 2 [(15, vF), (14, (vI 0))] (wpF_end (then_code (wpC_false ?_)))))))))
  refine wpC_skip (then_code (wpC_seq (wpC_region (wpF_run 1 [(18, (.func (.func 74) #[(vP a1 0)] #[]))] (wpF_step (op_call (some 19) (c_next 1 _ hFz1_1 (((h_l.ext hEw1)).ext hEw2) (by omega) (by omega)) ?_))))))
  rintro _ w3 ⟨a2, a3, rfl, hPw3, hBw3, hQw3, hCw3⟩
  have hzw3 := hCw3.size
  have hlew3 := hPw3.le; have hlew3q := hQw3.le
  obtain ⟨b1, o1, rfl⟩ := hPw3.addr (by omega)
  refine wpF_step (op_v (some 20) (Instr.indexAt 44 (.slice (pA b1 o1) 1 c_l) (vI 0)) (vP b1 (o1 + 0 * 1)) (rn_ixs (E := 5) (sz := 1) (by omega)) ?_)
  refine wpF_step (op_v (some 21) (Instr.loadAt 5 (vP b1 (o1 + 0 * 1))) (vB (byt (l.take 1) 0)) (rn_ld (hPw3.cell1 (by omega))) ?_)
  refine wpF_run 1 [(6, (vB (byt (l.take 1) 0)))] (wpF_end (then_code (wpC_seq (wpC_region (wpF_run 2 [(23, (.func (.func 74) #[(vP a1 0)] #[])), (22, (vB (byt (l.take 1) 0)))] (wpF_step (op_call (some 24) (c_next 32 _ hBw3 hQw3 (by omega) (by omega)) ?_)))))))
  rintro _ w4 ⟨a4, a5, rfl, hPw4, hBw4, hQw4, hCw4⟩
  have hzw4 := hCw4.size
  have hlew4 := hPw4.le; have hlew4q := hQw4.le
  obtain ⟨b2, o2, rfl⟩ := hPw4.addr (by omega)
  refine wpF_step (op_v (some 25) (Instr.arrayAt 33 (.slice (pA b2 o2) 32 (c_l - 1))) (vP b2 o2) (run_arrPtr (m := 32) (E := 5) (by omega)) ?_)
  refine wpF_step (op_v (some 26) (Instr.loadAt 33 (vP b2 o2)) (vA (digC (Dig.of ((l.drop 1).take 32)))) (rn_lda (vs := digC (Dig.of ((l.drop 1).take 32))) (hPw4.atDig (by have := h_l.len_eq; simp; omega)) (by rw [digC_len]; kernel_rfl)) ?_)
  refine wpF_step (op_v (some 27) (Instr.build 38 #[(0, (vB (byt (l.take 1) 0))), (1, (vA (digC (Dig.of ((l.drop 1).take 32)))))]) (vA (entC (Ent.of l))) ((run_build_ent (byt (l.take 1) 0) (Dig.of ((l.drop 1).take 32)) (byt_lt _ _)).trans (congrArg (fun z : Ent => Result.ok (Value.agg (entC z).toArray) _) (show (⟨byt (l.take 1) 0, (Dig.of ((l.drop 1).take 32)), byt_lt _ _⟩ : Ent) = Ent.of l from Ent.ext' (byt_take1 l) rfl))) ?_)
  refine wpF_step (op_new (some 7) (Instr.alloc 38 true (.tuple #[])) (vP w4.heap.size 0) (entC Ent.zero) 38 ?_)
  intro w5 hBw5 hEw5
  have hzw5 := hEw5.size; have hlw5 := hBw5.lt
  refine wpF_step (op_store 38 w4.heap.size 0 38 (vA (entC (Ent.of l))) (entC Ent.zero) (entC (Ent.of l)) hBw5 (by rw [entC_len]; kernel_rfl) (by simp) (entC_one _) ?_)
  intro w6 hBw6 hCw6
  have hzw6 := hCw6.size
  rw [setFrom_all _ _ (by simp)] at hBw6
  refine wpF_end (then_code (wpC_seq (wpC_seq (wpC_region (wpF_step (op_v (some 28) (Instr.loadAt 38 (vP w4.heap.size 0)) (vA (entC (Ent.of l))) (rn_lda (vs := entC (Ent.of l)) (hBw6.all) (by rw [entC_len]; kernel_rfl)) ?_))))))
  refine wpF_step (op_call (some 29) (c_CheckEntry (Ent.of l) _) ?_)
  rintro _ w7 ⟨rfl, hEw7⟩
  have hzw7 := hEw7.size
  refine wpF_run 1 [(8, (vI (chkE (Ent.of l))))] (wpF_end (then_code (wpC_seq (wpC_region (wpF_run 1 [(30, (vI (chkE (Ent.of l))))] (wpF_step (op_b (some 31) (((chkE (Ent.of l) : Nat) : Int) != ((0 : Nat) : Int)) false (cmpNeF (by omega)) ?_)))))))
  refine wpF_end (then_code (wpC_false (wpC_skip (then_code (wpC_seq (wpC_region (wpF_step (op_v (some 34) (Instr.loadAt 38 (vP w4.heap.size 0)) (vA (entC (Ent.of l))) (rn_lda (vs := entC (Ent.of l)) ((hBw6.ext hEw7).all) (by rw [entC_len]; kernel_rfl)) ?_))))))))
  have hK1 := (((((((((((hBw1.ext hEw2)).chg hCw3 (fun hs => by have h : _ = _ := hs; omega))).chg hCw4 (fun hs => by have h : _ = _ := hs; omega))).ext hEw5)).chg hCw6 (fun hs => by have h : _ = _ := hs; omega))).ext hEw7)
  refine wpF_step (op_store 38 w.heap.size 0 38 (vA (entC (Ent.of l))) (entC Ent.zero) (entC (Ent.of l)) hK1 (by rw [entC_len]; kernel_rfl) (by simp) (entC_one _) ?_)
  have hK2 := (((((((((((hBw1.ext hEw2)).chg hCw3 (fun hs => by have h : _ = _ := hs; omega))).chg hCw4 (fun hs => by have h : _ = _ := hs; omega))).ext hEw5)).chg hCw6 (fun hs => by have h : _ = _ := hs; omega))).ext hEw7)
  intro w8 hBw8 hCw8
  have hzw8 := hCw8.size
  rw [setFrom_all _ _ (by simp)] at hBw8
  refine wpF_run 1 [(3, (vI 0))] (wpF_end (then_code (wpC_ret (body_ret2 (show resVal Tryd.prog 35 _ _ (.cell 2 38) (vA (entC (Ent.of l))) from ⟨⟨w.heap.size, 0, none⟩, (by kernel_rfl), run_loadVar_agg (T := 38) (vs := entC (Ent.of l)) (hBw8).all (by rw [entC_len]; kernel_rfl)⟩) (show resVal Tryd.prog 35 _ _ (.tmp 3) (vI 0) by (show _ = _; kernel_rfl)) ?_))))
  have hX1 : Ext w w8 := (Ext.own ((Ext.own ((Ext.own (Ext.own (hEw1.trans hEw2) hCw3 (by omega)) hCw4 (by omega)).trans hEw5) hCw6 (by omega)).trans hEw7) hCw8 (by omega))
  exact ⟨rfl, hX1⟩

theorem c_GetEntryBad {lo_l hi_l : Nat} {a_l : Option Addr} {n_l c_l : Nat} {l : List UInt8}  (w : World) (h_l : Bs lo_l hi_l w a_l n_l c_l l) (hp0 : n_l = 33) (hp1 : chkE (Ent.of l) = 1) :
    Calls Tryd.prog 48 #[(.slice a_l n_l c_l)] w (Ret fun r w' => r = (.tuple #[(vA (entC Ent.zero)), (vI 1)]) ∧ Ext w w') := by
  refine calls_of (n := 35) (σ := [(0, (.slice a_l n_l c_l))]) Tryd.func48 rfl ?_
  replace h_l := h_l.now; have hle_l := h_l.le
  refine wpC_seq (wpC_region (wpF_step (op_new (some 2) (Instr.alloc 38 true (.tuple #[])) (vP w.heap.size 0) (entC Ent.zero) 38 ?_)))
  intro w1 hBw1 hEw1
  have hzw1 := hEw1.size; have hlw1 := hBw1.lt
  refine wpF_run 1 [(3, (vI 0))] (wpF_end (then_code (wpC_seq (wpC_region (wpF_run 1 [(10, (.slice a_l n_l c_l))] (wpF_step (op_call (some 11) (c_read 33 _ (h_l.ext hEw1) (by first | omega | decide)) ?_)))))))
  rintro _ w2 ⟨a1, rfl, hFz1_0, hFz1_1, hEw2⟩
  have hzw2 := hEw2.size
  have hla1 := hFz1_1.lt
  refine wpF_run 5 [(5, (vI 0)), (4, (.func (.func 74) #[(vP a1 0)] #[])), (13, (vI 0)), (12, (.func (.func 74) #[(vP a1 0)] #[])), (9, (.tuple #[(.func (.func 74) #[(vP a1 0)] #[]), (vI 0)]))] (wpF_end (then_code (wpC_seq (wpC_seq (wpC_region (wpF_run 2 [(15, vF), (14, (vI 0))] (wpF_end (then_code (wpC_false ?_)))))))))
  refine wpC_skip (then_code (wpC_seq (wpC_region (wpF_run 1 [(18, (.func (.func 74) #[(vP a1 0)] #[]))] (wpF_step (op_call (some 19) (c_next 1 _ hFz1_1 (((h_l.ext hEw1)).ext hEw2) (by omega) (by omega)) ?_))))))
  rintro _ w3 ⟨a2, a3, rfl, hPw3, hBw3, hQw3, hCw3⟩
  have hzw3 := hCw3.size
  have hlew3 := hPw3.le; have hlew3q := hQw3.le
  obtain ⟨b1, o1, rfl⟩ := hPw3.addr (by omega)
  refine wpF_step (op_v (some 20) (Instr.indexAt 44 (.slice (pA b1 o1) 1 c_l) (vI 0)) (vP b1 (o1 + 0 * 1)) (rn_ixs (E := 5) (sz := 1) (by omega)) ?_)
  refine wpF_step (op_v (some 21) (Instr.loadAt 5 (vP b1 (o1 + 0 * 1))) (vB (byt (l.take 1) 0)) (rn_ld (hPw3.cell1 (by omega))) ?_)
  refine wpF_run 1 [(6, (vB (byt (l.take 1) 0)))] (wpF_end (then_code (wpC_seq (wpC_region (wpF_run 2 [(23, (.func (.func 74) #[(vP a1 0)] #[])), (22, (vB (byt (l.take 1) 0)))] (wpF_step (op_call (some 24) (c_next 32 _ hBw3 hQw3 (by omega) (by omega)) ?_)))))))
  rintro _ w4 ⟨a4, a5, rfl, hPw4, hBw4, hQw4, hCw4⟩
  have hzw4 := hCw4.size
  have hlew4 := hPw4.le; have hlew4q := hQw4.le
  obtain ⟨b2, o2, rfl⟩ := hPw4.addr (by omega)
  refine wpF_step (op_v (some 25) (Instr.arrayAt 33 (.slice (pA b2 o2) 32 (c_l - 1))) (vP b2 o2) (run_arrPtr (m := 32) (E := 5) (by omega)) ?_)
  refine wpF_step (op_v (some 26) (Instr.loadAt 33 (vP b2 o2)) (vA (digC (Dig.of ((l.drop 1).take 32)))) (rn_lda (vs := digC (Dig.of ((l.drop 1).take 32))) (hPw4.atDig (by have := h_l.len_eq; simp; omega)) (by rw [digC_len]; kernel_rfl)) ?_)
  refine wpF_step (op_v (some 27) (Instr.build 38 #[(0, (vB (byt (l.take 1) 0))), (1, (vA (digC (Dig.of ((l.drop 1).take 32)))))]) (vA (entC (Ent.of l))) ((run_build_ent (byt (l.take 1) 0) (Dig.of ((l.drop 1).take 32)) (byt_lt _ _)).trans (congrArg (fun z : Ent => Result.ok (Value.agg (entC z).toArray) _) (show (⟨byt (l.take 1) 0, (Dig.of ((l.drop 1).take 32)), byt_lt _ _⟩ : Ent) = Ent.of l from Ent.ext' (byt_take1 l) rfl))) ?_)
  refine wpF_step (op_new (some 7) (Instr.alloc 38 true (.tuple #[])) (vP w4.heap.size 0) (entC Ent.zero) 38 ?_)
  intro w5 hBw5 hEw5
  have hzw5 := hEw5.size; have hlw5 := hBw5.lt
  refine wpF_step (op_store 38 w4.heap.size 0 38 (vA (entC (Ent.of l))) (entC Ent.zero) (entC (Ent.of l)) hBw5 (by rw [entC_len]; kernel_rfl) (by simp) (entC_one _) ?_)
  intro w6 hBw6 hCw6
  have hzw6 := hCw6.size
  rw [setFrom_all _ _ (by simp)] at hBw6
  refine wpF_end (then_code (wpC_seq (wpC_seq (wpC_region (wpF_step (op_v (some 28) (Instr.loadAt 38 (vP w4.heap.size 0)) (vA (entC (Ent.of l))) (rn_lda (vs := entC (Ent.of l)) (hBw6.all) (by rw [entC_len]; kernel_rfl)) ?_))))))
  refine wpF_step (op_call (some 29) (c_CheckEntry (Ent.of l) _) ?_)
  rintro _ w7 ⟨rfl, hEw7⟩
  have hzw7 := hEw7.size
  refine wpF_run 1 [(8, (vI (chkE (Ent.of l))))] (wpF_end (then_code (wpC_seq (wpC_region (wpF_run 1 [(30, (vI (chkE (Ent.of l))))] (wpF_step (op_b (some 31) (((chkE (Ent.of l) : Nat) : Int) != ((0 : Nat) : Int)) true (cmpNeT (by omega)) ?_)))))))
  refine wpF_end (then_code (wpC_true (wpC_seq (wpC_region (wpF_run 2 [(33, (vI (chkE (Ent.of l)))), (32, (vA (entC Ent.zero)))] ?_)))))
  have hK1 := (((((((((((hBw1.ext hEw2)).chg hCw3 (fun hs => by have h : _ = _ := hs; omega))).chg hCw4 (fun hs => by have h : _ = _ := hs; omega))).ext hEw5)).chg hCw6 (fun hs => by have h : _ = _ := hs; omega))).ext hEw7)
  refine wpF_step (op_store 38 w.heap.size 0 38 (vA (entC Ent.zero)) (entC Ent.zero) (entC Ent.zero) hK1 (by rw [entC_len]; kernel_rfl) (by simp) (entC_one _) ?_)
  have hK2 := (((((((((((hBw1.ext hEw2)).chg hCw3 (fun hs => by have h : _ = _ := hs; omega))).chg hCw4 (fun hs => by have h : _ = _ := hs; omega))).ext hEw5)).chg hCw6 (fun hs => by have h : _ = _ := hs; omega))).ext hEw7)
  intro w8 hBw8 hCw8
  have hzw8 := hCw8.size
  rw [setFrom_all _ _ (by simp)] at hBw8
  refine wpF_run 1 [(3, (vI (chkE (Ent.of l))))] (wpF_end (then_code (wpC_ret (then_ret (body_ret2 (show resVal Tryd.prog 35 _ _ (.cell 2 38) (vA (entC Ent.zero)) from ⟨⟨w.heap.size, 0, none⟩, (by kernel_rfl), run_loadVar_agg (T := 38) (vs := entC Ent.zero) (hBw8).all (by rw [entC_len]; kernel_rfl)⟩) (show resVal Tryd.prog 35 _ _ (.tmp 3) (vI (chkE (Ent.of l))) by (show _ = _; kernel_rfl)) ?_)))))
  have hX1 : Ext w w8 := (Ext.own ((Ext.own ((Ext.own (Ext.own (hEw1.trans hEw2) hCw3 (by omega)) hCw4 (by omega)).trans hEw5) hCw6 (by omega)).trans hEw7) hCw8 (by omega))
  rw [hp1]; exact ⟨rfl, hX1⟩

theorem c_GetRecordShort {lo_l hi_l : Nat} {a_l : Option Addr} {n_l c_l : Nat} {l : List UInt8}  (w : World) (h_l : Bs lo_l hi_l w a_l n_l c_l l) (hp0 : n_l < 45) :
    Calls Tryd.prog 47 #[(.slice a_l n_l c_l)] w (Ret fun r w' => r = (.tuple #[(vA (recC Rec.zero)), (vI 6)]) ∧ Ext w w') := by
  refine calls_of (n := 44) (σ := [(0, (.slice a_l n_l c_l))]) Tryd.func47 rfl ?_
  replace h_l := h_l.now; have hle_l := h_l.le
  refine wpC_seq (wpC_region (wpF_step (op_new (some 2) (Instr.alloc 35 true (.tuple #[])) (vP w.heap.size 0) (recC Rec.zero) 35 ?_)))
  intro w1 hBw1 hEw1
  have hzw1 := hEw1.size; have hlw1 := hBw1.lt
  refine wpF_run 1 [(3, (vI 0))] (wpF_end (then_code (wpC_seq (wpC_region (wpF_run 1 [(12, (.slice a_l n_l c_l))] (wpF_step (op_call (some 13) (c_readShort 45 _ (h_l.ext hEw1) (by first | omega | decide)) ?_)))))))
  rintro _ w2 ⟨rfl, hEw2⟩
  have hzw2 := hEw2.size
  refine wpF_run 5 [(5, (vI 6)), (4, .nilFunc), (15, (vI 6)), (14, .nilFunc), (11, (.tuple #[.nilFunc, (vI 6)]))] (wpF_end (then_code (wpC_seq (wpC_seq (wpC_region (wpF_run 2 [(17, vT), (16, (vI 6))] (wpF_end (then_code (wpC_true ?_)))))))))
  refine wpC_seq (wpC_region (wpF_run 2 [(19, (vI 6)), (18, (vA (recC Rec.zero)))] (wpF_step (op_store 35 w.heap.size 0 35 (vA (recC Rec.zero)) (recC Rec.zero) (recC Rec.zero) (hBw1.ext hEw2) (by rw [recC_len]; kernel_rfl) (by simp) (recC_one _) ?_))))
  intro w3 hBw3 hCw3
  have hzw3 := hCw3.size
  rw [setFrom_all _ _ (by simp)] at hBw3
  exact wpF_run 1 [(3, (vI 6))] (wpF_end (then_code (wpC_ret (then_ret (body_ret2 (show resVal Tryd.prog 44 _ _ (.cell 2 35) (vA (recC Rec.zero)) from ⟨⟨w.heap.size, 0, none⟩, (by kernel_rfl), run_loadVar_agg (T := 35) (vs := recC Rec.zero) (hBw3).all (by rw [recC_len]; kernel_rfl)⟩) (show resVal Tryd.prog 44 _ _ (.tmp 3) (vI 6) by (show _ = _; kernel_rfl)) (⟨rfl, (Ext.own (hEw1.trans hEw2) hCw3 (by omega))⟩))))))

theorem c_GetRecordLong {lo_l hi_l : Nat} {a_l : Option Addr} {n_l c_l : Nat} {l : List UInt8}  (w : World) (h_l : Bs lo_l hi_l w a_l n_l c_l l) (hp0 : 45 < n_l) :
    Calls Tryd.prog 47 #[(.slice a_l n_l c_l)] w (Ret fun r w' => r = (.tuple #[(vA (recC Rec.zero)), (vI 5)]) ∧ Ext w w') := by
  refine calls_of (n := 44) (σ := [(0, (.slice a_l n_l c_l))]) Tryd.func47 rfl ?_
  replace h_l := h_l.now; have hle_l := h_l.le
  refine wpC_seq (wpC_region (wpF_step (op_new (some 2) (Instr.alloc 35 true (.tuple #[])) (vP w.heap.size 0) (recC Rec.zero) 35 ?_)))
  intro w1 hBw1 hEw1
  have hzw1 := hEw1.size; have hlw1 := hBw1.lt
  refine wpF_run 1 [(3, (vI 0))] (wpF_end (then_code (wpC_seq (wpC_region (wpF_run 1 [(12, (.slice a_l n_l c_l))] (wpF_step (op_call (some 13) (c_readLong 45 _ (h_l.ext hEw1) (by first | omega | decide)) ?_)))))))
  rintro _ w2 ⟨rfl, hEw2⟩
  have hzw2 := hEw2.size
  refine wpF_run 5 [(5, (vI 5)), (4, .nilFunc), (15, (vI 5)), (14, .nilFunc), (11, (.tuple #[.nilFunc, (vI 5)]))] (wpF_end (then_code (wpC_seq (wpC_seq (wpC_region (wpF_run 2 [(17, vT), (16, (vI 5))] (wpF_end (then_code (wpC_true ?_)))))))))
  refine wpC_seq (wpC_region (wpF_run 2 [(19, (vI 5)), (18, (vA (recC Rec.zero)))] (wpF_step (op_store 35 w.heap.size 0 35 (vA (recC Rec.zero)) (recC Rec.zero) (recC Rec.zero) (hBw1.ext hEw2) (by rw [recC_len]; kernel_rfl) (by simp) (recC_one _) ?_))))
  intro w3 hBw3 hCw3
  have hzw3 := hCw3.size
  rw [setFrom_all _ _ (by simp)] at hBw3
  exact wpF_run 1 [(3, (vI 5))] (wpF_end (then_code (wpC_ret (then_ret (body_ret2 (show resVal Tryd.prog 44 _ _ (.cell 2 35) (vA (recC Rec.zero)) from ⟨⟨w.heap.size, 0, none⟩, (by kernel_rfl), run_loadVar_agg (T := 35) (vs := recC Rec.zero) (hBw3).all (by rw [recC_len]; kernel_rfl)⟩) (show resVal Tryd.prog 44 _ _ (.tmp 3) (vI 5) by (show _ = _; kernel_rfl)) (⟨rfl, (Ext.own (hEw1.trans hEw2) hCw3 (by omega))⟩))))))

theorem c_GetRecord {lo_l hi_l : Nat} {a_l : Option Addr} {n_l c_l : Nat} {l : List UInt8}  (w : World) (h_l : Bs lo_l hi_l w a_l n_l c_l l) (hp0 : n_l = 45) (hp1 : chkR (Rec.of l) = 0) :
    Calls Tryd.prog 47 #[(.slice a_l n_l c_l)] w (Ret fun r w' => r = (.tuple #[(vA (recC (Rec.of l))), (vI 0)]) ∧ Ext w w') := by
  refine calls_of (n := 44) (σ := [(0, (.slice a_l n_l c_l))]) Tryd.func47 rfl ?_
  replace h_l := h_l.now; have hle_l := h_l.le
  refine wpC_seq (wpC_region (wpF_step (op_new (some 2) (Instr.alloc 35 true (.tuple #[])) (vP w.heap.size 0) (recC Rec.zero) 35 ?_)))
  intro w1 hBw1 hEw1
  have hzw1 := hEw1.size; have hlw1 := hBw1.lt
  refine wpF_run 1 [(3, (vI 0))] (wpF_end (then_code (wpC_seq (wpC_region (wpF_run 1 [(12, (.slice a_l n_l c_l))] (wpF_step (op_call (some 13) (c_read 45 _ (h_l.ext hEw1) (by first | omega | decide)) ?_)))))))
  rintro _ w2 ⟨a1, rfl, hFz1_0, hFz1_1, hEw2⟩
  have hzw2 := hEw2.size
  have hla1 := hFz1_1.lt
  refine wpF_run 5 [(5, (vI 0)), (4, (.func (.func 74) #[(vP a1 0)] #[])), (15, (vI 0)), (14, (.func (.func 74) #[(vP a1 0)] #[])), (11, (.tuple #[(.func (.func 74) #[(vP a1 0)] #[]), (vI 0)]))] (wpF_end (then_code (wpC_seq (wpC_seq (wpC_region (wpF_run 2 [(17, vF), (16, (vI 0))] (wpF_end (then_code (wpC_false ?_)))))))))
  refine wpC_skip (then_code (wpC_seq (wpC_region (wpF_run 1 [(20, (.func (.func 74) #[(vP a1 0)] #[]))] (wpF_step (op_call (some 21) (c_next 1 _ hFz1_1 (((h_l.ext hEw1)).ext hEw2) (by omega) (by omega)) ?_))))))
  rintro _ w3 ⟨a2, a3, rfl, hPw3, hBw3, hQw3, hCw3⟩
  have hzw3 := hCw3.size
  have hlew3 := hPw3.le; have hlew3q := hQw3.le
  obtain ⟨b1, o1, rfl⟩ := hPw3.addr (by omega)
  refine wpF_step (op_v (some 22) (Instr.indexAt 44 (.slice (pA b1 o1) 1 c_l) (vI 0)) (vP b1 (o1 + 0 * 1)) (rn_ixs (E := 5) (sz := 1) (by omega)) ?_)
  refine wpF_step (op_v (some 23) (Instr.loadAt 5 (vP b1 (o1 + 0 * 1))) (vB (byt (l.take 1) 0)) (rn_ld (hPw3.cell1 (by omega))) ?_)
  refine wpF_run 1 [(6, (vB (byt (l.take 1) 0)))] (wpF_end (then_code (wpC_seq (wpC_region (wpF_run 1 [(25, (.func (.func 74) #[(vP a1 0)] #[]))] (wpF_step (op_call (some 26) (c_next 12 _ hBw3 hQw3 (by omega) (by omega)) ?_)))))))
  rintro _ w4 ⟨a4, a5, rfl, hPw4, hBw4, hQw4, hCw4⟩
  have hzw4 := hCw4.size
  have hlew4 := hPw4.le; have hlew4q := hQw4.le
  refine wpF_step (op_call (some 27) (c_nonceGet _ hPw4 (by first | omega | decide)) ?_)
  rintro _ w5 ⟨rfl, hEw5⟩
  have hzw5 := hEw5.size
  refine wpF_run 3 [(29, (vI 0)), (28, (vA (nonC (Non.of ((l.drop 1).take 12))))), (24, (.tuple #[(vA (nonC (Non.of ((l.drop 1).take 12)))), (vI 0)]))] (wpF_step (op_new (some 7) (Instr.alloc 31 true (.tuple #[])) (vP w5.heap.size 0) (nonC Non.zero) 31 ?_))
  intro w6 hBw6 hEw6
  have hzw6 := hEw6.size; have hlw6 := hBw6.lt
  refine wpF_step (op_store 31 w5.heap.size 0 31 (vA (nonC (Non.of ((l.drop 1).take 12)))) (nonC Non.zero) (nonC (Non.of ((l.drop 1).take 12))) hBw6 (by rw [nonC_len]; kernel_rfl) (by simp) (nonC_one _) ?_)
  intro w7 hBw7 hCw7
  have hzw7 := hCw7.size
  rw [setFrom_all _ _ (by simp)] at hBw7
  refine wpF_run 1 [(8, (vI 0))] (wpF_end (then_code (wpC_seq (wpC_drawM (Chg (fun k => k = a1) w7.drew) 9 [(31, 64, 0), (32, 128, 0), (33, 16, 0), (34, 4294967296, 4), (35, 8589934592, 8), (36, 17179869184, 16), (37, 37580963840, 35), (10, 0, 0), (0, 68719477248, 255)] (fun hT234 => ?_)))))
  have hEw8 : Ext w7 w7.drew := Ext.drew w7
  generalize w7.drew = w8 at hEw8 ⊢
  have hzw8 := hEw8.size
  refine anyM_run (hw := show Chg (fun k => k = a1) w8 w8 from (Chg.refl (fun k => k = a1) w8)) hT234 [(0, 30, (vB (byt (l.take 1) 0)))] 1 1 (anyM_take (hw := show Chg (fun k => k = a1) w8 w8 from (Chg.refl (fun k => k = a1) w8)) hT234 1 3 (some 31) (vA (nonC (Non.of ((l.drop 1).take 12)))) (yld_val (Instr.loadAt 31 (vP w5.heap.size 0)) (fun w' hC => rn_lda (vs := nonC (Non.of ((l.drop 1).take 12))) (((hBw7.ext hEw8).chg hC (fun hs => by have h : _ = _ := hs; omega)).all) (by rw [nonC_len]; kernel_rfl))) (anyM_run (hw := show Chg (fun k => k = a1) w8 w8 from (Chg.refl (fun k => k = a1) w8)) hT234 [(2, 32, (.func (.func 74) #[(vP a1 0)] #[]))] 1 7 (anyM_two 3 7 15 135 ?_ ?_)))
  · have hK1 := (((((((hBw4.ext hEw5)).ext hEw6)).chg hCw7 (fun hs => by have h : _ = _ := hs; omega))).ext hEw8)
    have hK2 := (((((((hQw4.ext hEw5)).ext hEw6)).chg hCw7 (fun k h1 h2 hs => by have h : k = _ := hs; omega))).ext hEw8)
    refine op_call (some 33) (c_next 32 _ hK1 hK2 (by omega) (by omega)) ?_
    rintro _ w9 ⟨a6, a7, rfl, hPw9, hBw9, hQw9, hCw9⟩
    have hzw9 := hCw9.size
    have hlew9 := hPw9.le; have hlew9q := hQw9.le
    refine ⟨.inr (Chg.then (Chg.refl (fun k => k = a1) w8) hCw9 (fun k hk hs => by have h : k = _ := hs; first | exact hs | (exfalso; omega))), ?_⟩
    obtain ⟨b2, o2, rfl⟩ := hPw9.addr (by omega)
    refine anyM_take (hw := show Chg (fun k => k = a1) w8 w9 from (Chg.then (Chg.refl (fun k => k = a1) w8) hCw9 (fun k hk hs => by have h : k = _ := hs; first | exact hs | (exfalso; omega)))) hT234 4 31 (some 34) (vP b2 o2) (yld_val (Instr.arrayAt 33 (.slice (pA b2 o2) 32 (c_l - 1 - 12))) (fun w' hC => run_arrPtr (m := 32) (E := 5) (by omega))) (anyM_class (C := Chg (fun k => k = a1) w8) (C' := Chg (fun k => k = a1) w9) (fun w' h => ((Chg.then (Chg.refl (fun k => k = a1) w8) hCw9 (fun k hk hs => by have h : k = _ := hs; first | exact hs | (exfalso; omega)))).trans h) (anyM_take (hw := show Chg (fun k => k = a1) w9 w9 from (Chg.refl (fun k => k = a1) w9)) hT234 5 63 (some 35) (vA (digC (Dig.of (((l.drop 1).drop 12).take 32)))) (yld_val (Instr.loadAt 33 (vP b2 o2)) (fun w' hC => rn_lda (vs := digC (Dig.of (((l.drop 1).drop 12).take 32))) ((hPw9.chg hC (fun k h1 h2 hs => by have h : _ = _ := hs; omega)).atDig (by have := h_l.len_eq; simp; omega)) (by rw [digC_len]; kernel_rfl))) ?_))
    refine anyM_take (hw := show Chg (fun k => k = a1) w9 w9 from (Chg.refl (fun k => k = a1) w9)) hT234 6 127 (some 36) (vA (recC (Rec.of l))) (yld_val (Instr.build 35 #[(0, (vB (byt (l.take 1) 0))), (1, (vA (nonC (Non.of ((l.drop 1).take 12))))), (2, (vA (digC (Dig.of (((l.drop 1).drop 12).take 32)))))]) (fun w' hC => (run_build_rec (byt (l.take 1) 0) (Non.of ((l.drop 1).take 12)) (Dig.of (((l.drop 1).drop 12).take 32)) (byt_lt _ _)).trans (congrArg (fun z : Rec => Result.ok (Value.agg (recC z).toArray) _) (show (⟨byt (l.take 1) 0, (Non.of ((l.drop 1).take 12)), (Dig.of (((l.drop 1).drop 12).take 32)), byt_lt _ _⟩ : Rec) = Rec.of l from Rec.ext' (byt_take1 l) rfl (congrArg Dig.of (by rw [List.drop_drop])))))) (anyM_one 7 255 (op_new (some 9) (Instr.alloc 35 true (.tuple #[])) (vP w9.heap.size 0) (recC Rec.zero) 35 ?_))
    intro w10 hBw10 hEw10
    have hzw10 := hEw10.size; have hlw10 := hBw10.lt
    refine ⟨.inr ((Chg.refl (fun k => k = a1) w9).trans hEw10.chg), ?_⟩
    refine anyM_one 8 511 (op_store 35 w9.heap.size 0 35 (vA (recC (Rec.of l))) (recC Rec.zero) (recC (Rec.of l)) hBw10 (by rw [recC_len]; kernel_rfl) (by simp) (recC_one _) ?_)
    intro w11 hBw11 hCw11
    have hzw11 := hCw11.size
    rw [setFrom_all _ _ (by simp)] at hBw11
    refine ⟨.inl (by kernel_rfl), ?_⟩
    refine anyM_done (then_code (wpC_seq (wpC_seq (wpC_region (wpF_step (op_v (some 37) (Instr.loadAt 35 (vP w9.heap.size 0)) (vA (recC (Rec.of l))) (rn_lda (vs := recC (Rec.of l)) (hBw11.all) (by rw [recC_len]; kernel_rfl)) ?_))))))
    refine wpF_step (op_call (some 38) (c_CheckRecord (Rec.of l) _) ?_)
    rintro _ w12 ⟨rfl, hEw12⟩
    have hzw12 := hEw12.size
    refine wpF_run 1 [(10, (vI (chkR (Rec.of l))))] (wpF_end (then_code (wpC_seq (wpC_region (wpF_run 1 [(39, (vI (chkR (Rec.of l))))] (wpF_step (op_b (some 40) (((chkR (Rec.of l) : Nat) : Int) != ((0 : Nat) : Int)) false (cmpNeF (by omega)) ?_)))))))
    refine wpF_end (then_code (wpC_false (wpC_skip (then_code (wpC_seq (wpC_region (wpF_step (op_v (some 43) (Instr.loadAt 35 (vP w9.heap.size 0)) (vA (recC (Rec.of l))) (rn_lda (vs := recC (Rec.of l)) ((hBw11.ext hEw12).all) (by rw [recC_len]; kernel_rfl)) ?_))))))))
    have hK3 := (((((((((((((((((((((hBw1.ext hEw2)).chg hCw3 (fun hs => by have h : _ = _ := hs; omega))).chg hCw4 (fun hs => by have h : _ = _ := hs; omega))).ext hEw5)).ext hEw6)).chg hCw7 (fun hs => by have h : _ = _ := hs; omega))).ext hEw8)).chg hCw9 (fun hs => by have h : _ = _ := hs; omega))).ext hEw10)).chg hCw11 (fun hs => by have h : _ = _ := hs; omega))).ext hEw12)
    refine wpF_step (op_store 35 w.heap.size 0 35 (vA (recC (Rec.of l))) (recC Rec.zero) (recC (Rec.of l)) hK3 (by rw [recC_len]; kernel_rfl) (by simp) (recC_one _) ?_)
    have hK4 := (((((((((((((((((((((hBw1.ext hEw2)).chg hCw3 (fun hs => by have h : _ = _ := hs; omega))).chg hCw4 (fun hs => by have h : _ = _ := hs; omega))).ext hEw5)).ext hEw6)).chg hCw7 (fun hs => by have h : _ = _ := hs; omega))).ext hEw8)).chg hCw9 (fun hs => by have h : _ = _ := hs; omega))).ext hEw10)).chg hCw11 (fun hs => by have h : _ = _ := hs; omega))).ext hEw12)
    intro w13 hBw13 hCw13
    have hzw13 := hCw13.size
    rw [setFrom_all _ _ (by simp)] at hBw13
    refine wpF_run 1 [(3, (vI 0))] (wpF_end (then_code (wpC_ret (body_ret2 (show resVal Tryd.prog 44 _ _ (.cell 2 35) (vA (recC (Rec.of l))) from ⟨⟨w.heap.size, 0, none⟩, (by kernel_rfl), run_loadVar_agg (T := 35) (vs := recC (Rec.of l)) (hBw13).all (by rw [recC_len]; kernel_rfl)⟩) (show resVal Tryd.prog 44 _ _ (.tmp 3) (vI 0) by (show _ = _; kernel_rfl)) ?_))))
    have hX1 : Ext w w13 := (Ext.own ((Ext.own ((Ext.own ((Ext.own (((Ext.own (Ext.own (hEw1.trans hEw2) hCw3 (by omega)) hCw4 (by omega)).trans hEw5).trans hEw6) hCw7 (by omega)).trans hEw8) hCw9 (by omega)).trans hEw10) hCw11 (by omega)).trans hEw12) hCw13 (by omega))
    exact ⟨rfl, hX1⟩
  · refine op_new (some 9) (Instr.alloc 35 true (.tuple #[])) (vP w8.heap.size 0) (recC Rec.zero) 35 ?_
    intro w14 hBw14 hEw14
    have hzw14 := hEw14.size; have hlw14 := hBw14.lt
    refine ⟨.inr ((Chg.refl (fun k => k = a1) w8).trans hEw14.chg), ?_⟩
    have hK5 := (((((((((hBw4.ext hEw5)).ext hEw6)).chg hCw7 (fun hs => by have h : _ = _ := hs; omega))).ext hEw8)).ext hEw14)
    have hK6 := (((((((((hQw4.ext hEw5)).ext hEw6)).chg hCw7 (fun k h1 h2 hs => by have h : k = _ := hs; omega))).ext hEw8)).ext hEw14)
    refine anyM_one 3 143 (op_call (some 33) (c_next 32 _ hK5 hK6 (by omega) (by omega)) ?_)
    rintro _ w15 ⟨a8, a9, rfl, hPw15, hBw15, hQw15, hCw15⟩
    have hzw15 := hCw15.size
    have hlew15 := hPw15.le; have hlew15q := hQw15.le
    refine ⟨.inr (Chg.then ((Chg.refl (fun k => k = a1) w8).trans hEw14.chg) hCw15 (fun k hk hs => by have h : k = _ := hs; first | exact hs | (exfalso; omega))), ?_⟩
    obtain ⟨b3, o3, rfl⟩ := hPw15.addr (by omega)
    refine anyM_take (hw := show Chg (fun k => k = a1) w8 w15 from (Chg.then ((Chg.refl (fun k => k = a1) w8).trans hEw14.chg) hCw15 (fun k hk hs => by have h : k = _ := hs; first | exact hs | (exfalso; omega)))) hT234 4 159 (some 34) (vP b3 o3) (yld_val (Instr.arrayAt 33 (.slice (pA b3 o3) 32 (c_l - 1 - 12))) (fun w' hC => run_arrPtr (m := 32) (E := 5) (by omega))) (anyM_class (C := Chg (fun k => k = a1) w8) (C' := Chg (fun k => k = a1) w15) (fun w' h => ((Chg.then ((Chg.refl (fun k => k = a1) w8).trans hEw14.chg) hCw15 (fun k hk hs => by have h : k = _ := hs; first | exact hs | (exfalso; omega)))).trans h) (anyM_take (hw := show Chg (fun k => k = a1) w15 w15 from (Chg.refl (fun k => k = a1) w15)) hT234 5 191 (some 35) (vA (digC (Dig.of (((l.drop 1).drop 12).take 32)))) (yld_val (Instr.loadAt 33 (vP b3 o3)) (fun w' hC => rn_lda (vs := digC (Dig.of (((l.drop 1).drop 12).take 32))) ((hPw15.chg hC (fun k h1 h2 hs => by have h : _ = _ := hs; omega)).atDig (by have := h_l.len_eq; simp; omega)) (by rw [digC_len]; kernel_rfl))) ?_))
    refine anyM_take (hw := show Chg (fun k => k = a1) w15 w15 from (Chg.refl (fun k => k = a1) w15)) hT234 6 255 (some 36) (vA (recC (Rec.of l))) (yld_val (Instr.build 35 #[(0, (vB (byt (l.take 1) 0))), (1, (vA (nonC (Non.of ((l.drop 1).take 12))))), (2, (vA (digC (Dig.of (((l.drop 1).drop 12).take 32)))))]) (fun w' hC => (run_build_rec (byt (l.take 1) 0) (Non.of ((l.drop 1).take 12)) (Dig.of (((l.drop 1).drop 12).take 32)) (byt_lt _ _)).trans (congrArg (fun z : Rec => Result.ok (Value.agg (recC z).toArray) _) (show (⟨byt (l.take 1) 0, (Non.of ((l.drop 1).take 12)), (Dig.of (((l.drop 1).drop 12).take 32)), byt_lt _ _⟩ : Rec) = Rec.of l from Rec.ext' (byt_take1 l) rfl (congrArg Dig.of (by rw [List.drop_drop])))))) (anyM_one 8 511 (op_store 35 w8.heap.size 0 35 (vA (recC (Rec.of l))) (recC Rec.zero) (recC (Rec.of l)) ((hBw14).chg hCw15 (fun hs => by have h : _ = _ := hs; omega)) (by rw [recC_len]; kernel_rfl) (by simp) (recC_one _) ?_))
    intro w16 hBw16 hCw16
    have hzw16 := hCw16.size
    rw [setFrom_all _ _ (by simp)] at hBw16
    refine ⟨.inl (by kernel_rfl), ?_⟩
    refine anyM_done (then_code (wpC_seq (wpC_seq (wpC_region (wpF_step (op_v (some 37) (Instr.loadAt 35 (vP w8.heap.size 0)) (vA (recC (Rec.of l))) (rn_lda (vs := recC (Rec.of l)) (hBw16.all) (by rw [recC_len]; kernel_rfl)) ?_))))))
    refine wpF_step (op_call (some 38) (c_CheckRecord (Rec.of l) _) ?_)
    rintro _ w17 ⟨rfl, hEw17⟩
    have hzw17 := hEw17.size
    refine wpF_run 1 [(10, (vI (chkR (Rec.of l))))] (wpF_end (then_code (wpC_seq (wpC_region (wpF_run 1 [(39, (vI (chkR (Rec.of l))))] (wpF_step (op_b (some 40) (((chkR (Rec.of l) : Nat) : Int) != ((0 : Nat) : Int)) false (cmpNeF (by omega)) ?_)))))))
    refine wpF_end (then_code (wpC_false (wpC_skip (then_code (wpC_seq (wpC_region (wpF_step (op_v (some 43) (Instr.loadAt 35 (vP w8.heap.size 0)) (vA (recC (Rec.of l))) (rn_lda (vs := recC (Rec.of l)) ((hBw16.ext hEw17).all) (by rw [recC_len]; kernel_rfl)) ?_))))))))
    have hK7 := (((((((((((((((((((((hBw1.ext hEw2)).chg hCw3 (fun hs => by have h : _ = _ := hs; omega))).chg hCw4 (fun hs => by have h : _ = _ := hs; omega))).ext hEw5)).ext hEw6)).chg hCw7 (fun hs => by have h : _ = _ := hs; omega))).ext hEw8)).ext hEw14)).chg hCw15 (fun hs => by have h : _ = _ := hs; omega))).chg hCw16 (fun hs => by have h : _ = _ := hs; omega))).ext hEw17)
    refine wpF_step (op_store 35 w.heap.size 0 35 (vA (recC (Rec.of l))) (recC Rec.zero) (recC (Rec.of l)) hK7 (by rw [recC_len]; kernel_rfl) (by simp) (recC_one _) ?_)
    have hK8 := (((((((((((((((((((((hBw1.ext hEw2)).chg hCw3 (fun hs => by have h : _ = _ := hs; omega))).chg hCw4 (fun hs => by have h : _ = _ := hs; omega))).ext hEw5)).ext hEw6)).chg hCw7 (fun hs => by have h : _ = _ := hs; omega))).ext hEw8)).ext hEw14)).chg hCw15 (fun hs => by have h : _ = _ := hs; omega))).chg hCw16 (fun hs => by have h : _ = _ := hs; omega))).ext hEw17)
    intro w18 hBw18 hCw18
    have hzw18 := hCw18.size
    rw [setFrom_all _ _ (by simp)] at hBw18
    refine wpF_run 1 [(3, (vI 0))] (wpF_end (then_code (wpC_ret (body_ret2 (show resVal Tryd.prog 44 _ _ (.cell 2 35) (vA (recC (Rec.of l))) from ⟨⟨w.heap.size, 0, none⟩, (by kernel_rfl), run_loadVar_agg (T := 35) (vs := recC (Rec.of l)) (hBw18).all (by rw [recC_len]; kernel_rfl)⟩) (show resVal Tryd.prog 44 _ _ (.tmp 3) (vI 0) by (show _ = _; kernel_rfl)) ?_))))
    have hX2 : Ext w w18 := (Ext.own ((Ext.own (Ext.own (((Ext.own (((Ext.own (Ext.own (hEw1.trans hEw2) hCw3 (by omega)) hCw4 (by omega)).trans hEw5).trans hEw6) hCw7 (by omega)).trans hEw8).trans hEw14) hCw15 (by omega)) hCw16 (by omega)).trans hEw17) hCw18 (by omega))
    exact ⟨rfl, hX2⟩

theorem c_GetRecordBad {lo_l hi_l : Nat} {a_l : Option Addr} {n_l c_l : Nat} {l : List UInt8}  (w : World) (h_l : Bs lo_l hi_l w a_l n_l c_l l) (hp0 : n_l = 45) (hp1 : chkR (Rec.of l) = 1) :
    Calls Tryd.prog 47 #[(.slice a_l n_l c_l)] w (Ret fun r w' => r = (.tuple #[(vA (recC Rec.zero)), (vI 1)]) ∧ Ext w w') := by
  refine calls_of (n := 44) (σ := [(0, (.slice a_l n_l c_l))]) Tryd.func47 rfl ?_
  replace h_l := h_l.now; have hle_l := h_l.le
  refine wpC_seq (wpC_region (wpF_step (op_new (some 2) (Instr.alloc 35 true (.tuple #[])) (vP w.heap.size 0) (recC Rec.zero) 35 ?_)))
  intro w1 hBw1 hEw1
  have hzw1 := hEw1.size; have hlw1 := hBw1.lt
  refine wpF_run 1 [(3, (vI 0))] (wpF_end (then_code (wpC_seq (wpC_region (wpF_run 1 [(12, (.slice a_l n_l c_l))] (wpF_step (op_call (some 13) (c_read 45 _ (h_l.ext hEw1) (by first | omega | decide)) ?_)))))))
  rintro _ w2 ⟨a1, rfl, hFz1_0, hFz1_1, hEw2⟩
  have hzw2 := hEw2.size
  have hla1 := hFz1_1.lt
  refine wpF_run 5 [(5, (vI 0)), (4, (.func (.func 74) #[(vP a1 0)] #[])), (15, (vI 0)), (14, (.func (.func 74) #[(vP a1 0)] #[])), (11, (.tuple #[(.func (.func 74) #[(vP a1 0)] #[]), (vI 0)]))] (wpF_end (then_code (wpC_seq (wpC_seq (wpC_region (wpF_run 2 [(17, vF), (16, (vI 0))] (wpF_end (then_code (wpC_false ?_)))))))))
  refine wpC_skip (then_code (wpC_seq (wpC_region (wpF_run 1 [(20, (.func (.func 74) #[(vP a1 0)] #[]))] (wpF_step (op_call (some 21) (c_next 1 _ hFz1_1 (((h_l.ext hEw1)).ext hEw2) (by omega) (by omega)) ?_))))))
  rintro _ w3 ⟨a2, a3, rfl, hPw3, hBw3, hQw3, hCw3⟩
  have hzw3 := hCw3.size
  have hlew3 := hPw3.le; have hlew3q := hQw3.le
  obtain ⟨b1, o1, rfl⟩ := hPw3.addr (by omega)
  refine wpF_step (op_v (some 22) (Instr.indexAt 44 (.slice (pA b1 o1) 1 c_l) (vI 0)) (vP b1 (o1 + 0 * 1)) (rn_ixs (E := 5) (sz := 1) (by omega)) ?_)
  refine wpF_step (op_v (some 23) (Instr.loadAt 5 (vP b1 (o1 + 0 * 1))) (vB (byt (l.take 1) 0)) (rn_ld (hPw3.cell1 (by omega))) ?_)
  refine wpF_run 1 [(6, (vB (byt (l.take 1) 0)))] (wpF_end (then_code (wpC_seq (wpC_region (wpF_run 1 [(25, (.func (.func 74) #[(vP a1 0)] #[]))] (wpF_step (op_call (some 26) (c_next 12 _ hBw3 hQw3 (by omega) (by omega)) ?_)))))))
  rintro _ w4 ⟨a4, a5, rfl, hPw4, hBw4, hQw4, hCw4⟩
  have hzw4 := hCw4.size
  have hlew4 := hPw4.le; have hlew4q := hQw4.le
  refine wpF_step (op_call (some 27) (c_nonceGet _ hPw4 (by first | omega | decide)) ?_)
  rintro _ w5 ⟨rfl, hEw5⟩
  have hzw5 := hEw5.size
  refine wpF_run 3 [(29, (vI 0)), (28, (vA (nonC (Non.of ((l.drop 1).take 12))))), (24, (.tuple #[(vA (nonC (Non.of ((l.drop 1).take 12)))), (vI 0)]))] (wpF_step (op_new (some 7) (Instr.alloc 31 true (.tuple #[])) (vP w5.heap.size 0) (nonC Non.zero) 31 ?_))
  intro w6 hBw6 hEw6
  have hzw6 := hEw6.size; have hlw6 := hBw6.lt
  refine wpF_step (op_store 31 w5.heap.size 0 31 (vA (nonC (Non.of ((l.drop 1).take 12)))) (nonC Non.zero) (nonC (Non.of ((l.drop 1).take 12))) hBw6 (by rw [nonC_len]; kernel_rfl) (by simp) (nonC_one _) ?_)
  intro w7 hBw7 hCw7
  have hzw7 := hCw7.size
  rw [setFrom_all _ _ (by simp)] at hBw7
  refine wpF_run 1 [(8, (vI 0))] (wpF_end (then_code (wpC_seq (wpC_drawM (Chg (fun k => k = a1) w7.drew) 9 [(31, 64, 0), (32, 128, 0), (33, 16, 0), (34, 4294967296, 4), (35, 8589934592, 8), (36, 17179869184, 16), (37, 37580963840, 35), (10, 0, 0), (0, 68719477248, 255)] (fun hT339 => ?_)))))
  have hEw8 : Ext w7 w7.drew := Ext.drew w7
  generalize w7.drew = w8 at hEw8 ⊢
  have hzw8 := hEw8.size
  refine anyM_run (hw := show Chg (fun k => k = a1) w8 w8 from (Chg.refl (fun k => k = a1) w8)) hT339 [(0, 30, (vB (byt (l.take 1) 0)))] 1 1 (anyM_take (hw := show Chg (fun k => k = a1) w8 w8 from (Chg.refl (fun k => k = a1) w8)) hT339 1 3 (some 31) (vA (nonC (Non.of ((l.drop 1).take 12)))) (yld_val (Instr.loadAt 31 (vP w5.heap.size 0)) (fun w' hC => rn_lda (vs := nonC (Non.of ((l.drop 1).take 12))) (((hBw7.ext hEw8).chg hC (fun hs => by have h : _ = _ := hs; omega)).all) (by rw [nonC_len]; kernel_rfl))) (anyM_run (hw := show Chg (fun k => k = a1) w8 w8 from (Chg.refl (fun k => k = a1) w8)) hT339 [(2, 32, (.func (.func 74) #[(vP a1 0)] #[]))] 1 7 (anyM_two 3 7 15 135 ?_ ?_)))
  · have hK1 := (((((((hBw4.ext hEw5)).ext hEw6)).chg hCw7 (fun hs => by have h : _ = _ := hs; omega))).ext hEw8)
    have hK2 := (((((((hQw4.ext hEw5)).ext hEw6)).chg hCw7 (fun k h1 h2 hs => by have h : k = _ := hs; omega))).ext hEw8)
    refine op_call (some 33) (c_next 32 _ hK1 hK2 (by omega) (by omega)) ?_
    rintro _ w9 ⟨a6, a7, rfl, hPw9, hBw9, hQw9, hCw9⟩
    have hzw9 := hCw9.size
    have hlew9 := hPw9.le; have hlew9q := hQw9.le
    refine ⟨.inr (Chg.then (Chg.refl (fun k => k = a1) w8) hCw9 (fun k hk hs => by have h : k = _ := hs; first | exact hs | (exfalso; omega))), ?_⟩
    obtain ⟨b2, o2, rfl⟩ := hPw9.addr (by omega)
    refine anyM_take (hw := show Chg (fun k => k = a1) w8 w9 from (Chg.then (Chg.refl (fun k => k = a1) w8) hCw9 (fun k hk hs => by have h : k = _ := hs; first | exact hs | (exfalso; omega)))) hT339 4 31 (some 34) (vP b2 o2) (yld_val (Instr.arrayAt 33 (.slice (pA b2 o2) 32 (c_l - 1 - 12))) (fun w' hC => run_arrPtr (m := 32) (E := 5) (by omega))) (anyM_class (C := Chg (fun k => k = a1) w8) (C' := Chg (fun k => k = a1) w9) (fun w' h => ((Chg.then (Chg.refl (fun k => k = a1) w8) hCw9 (fun k hk hs => by have h : k = _ := hs; first | exact hs | (exfalso; omega)))).trans h) (anyM_take (hw := show Chg (fun k => k = a1) w9 w9 from (Chg.refl (fun k => k = a1) w9)) hT339 5 63 (some 35) (vA (digC (Dig.of (((l.drop 1).drop 12).take 32)))) (yld_val (Instr.loadAt 33 (vP b2 o2)) (fun w' hC => rn_lda (vs := digC (Dig.of (((l.drop 1).drop 12).take 32))) ((hPw9.chg hC (fun k h1 h2 hs => by have h : _ = _ := hs; omega)).atDig (by have := h_l.len_eq; simp; omega)) (by rw [digC_len]; kernel_rfl))) ?_))
    refine anyM_take (hw := show Chg (fun k => k = a1) w9 w9 from (Chg.refl (fun k => k = a1) w9)) hT339 6 127 (some 36) (vA (recC (Rec.of l))) (yld_val (Instr.build 35 #[(0, (vB (byt (l.take 1) 0))), (1, (vA (nonC (Non.of ((l.drop 1).take 12))))), (2, (vA (digC (Dig.of (((l.drop 1).drop 12).take 32)))))]) (fun w' hC => (run_build_rec (byt (l.take 1) 0) (Non.of ((l.drop 1).take 12)) (Dig.of (((l.drop 1).drop 12).take 32)) (byt_lt _ _)).trans (congrArg (fun z : Rec => Result.ok (Value.agg (recC z).toArray) _) (show (⟨byt (l.take 1) 0, (Non.of ((l.drop 1).take 12)), (Dig.of (((l.drop 1).drop 12).take 32)), byt_lt _ _⟩ : Rec) = Rec.of l from Rec.ext' (byt_take1 l) rfl (congrArg Dig.of (by rw [List.drop_drop])))))) (anyM_one 7 255 (op_new (some 9) (Instr.alloc 35 true (.tuple #[])) (vP w9.heap.size 0) (recC Rec.zero) 35 ?_))
    intro w10 hBw10 hEw10
    have hzw10 := hEw10.size; have hlw10 := hBw10.lt
    refine ⟨.inr ((Chg.refl (fun k => k = a1) w9).trans hEw10.chg), ?_⟩
    refine anyM_one 8 511 (op_store 35 w9.heap.size 0 35 (vA (recC (Rec.of l))) (recC Rec.zero) (recC (Rec.of l)) hBw10 (by rw [recC_len]; kernel_rfl) (by simp) (recC_one _) ?_)
    intro w11 hBw11 hCw11
    have hzw11 := hCw11.size
    rw [setFrom_all _ _ (by simp)] at hBw11
    refine ⟨.inl (by kernel_rfl), ?_⟩
    refine anyM_done (then_code (wpC_seq (wpC_seq (wpC_region (wpF_step (op_v (some 37) (Instr.loadAt 35 (vP w9.heap.size 0)) (vA (recC (Rec.of l))) (rn_lda (vs := recC (Rec.of l)) (hBw11.all) (by rw [recC_len]; kernel_rfl)) ?_))))))
    refine wpF_step (op_call (some 38) (c_CheckRecord (Rec.of l) _) ?_)
    rintro _ w12 ⟨rfl, hEw12⟩
    have hzw12 := hEw12.size
    refine wpF_run 1 [(10, (vI (chkR (Rec.of l))))] (wpF_end (then_code (wpC_seq (wpC_region (wpF_run 1 [(39, (vI (chkR (Rec.of l))))] (wpF_step (op_b (some 40) (((chkR (Rec.of l) : Nat) : Int) != ((0 : Nat) : Int)) true (cmpNeT (by omega)) ?_)))))))
    refine wpF_end (then_code (wpC_true (wpC_seq (wpC_region (wpF_run 2 [(42, (vI (chkR (Rec.of l)))), (41, (vA (recC Rec.zero)))] ?_)))))
    have hK3 := (((((((((((((((((((((hBw1.ext hEw2)).chg hCw3 (fun hs => by have h : _ = _ := hs; omega))).chg hCw4 (fun hs => by have h : _ = _ := hs; omega))).ext hEw5)).ext hEw6)).chg hCw7 (fun hs => by have h : _ = _ := hs; omega))).ext hEw8)).chg hCw9 (fun hs => by have h : _ = _ := hs; omega))).ext hEw10)).chg hCw11 (fun hs => by have h : _ = _ := hs; omega))).ext hEw12)
    refine wpF_step (op_store 35 w.heap.size 0 35 (vA (recC Rec.zero)) (recC Rec.zero) (recC Rec.zero) hK3 (by rw [recC_len]; kernel_rfl) (by simp) (recC_one _) ?_)
    have hK4 := (((((((((((((((((((((hBw1.ext hEw2)).chg hCw3 (fun hs => by have h : _ = _ := hs; omega))).chg hCw4 (fun hs => by have h : _ = _ := hs; omega))).ext hEw5)).ext hEw6)).chg hCw7 (fun hs => by have h : _ = _ := hs; omega))).ext hEw8)).chg hCw9 (fun hs => by have h : _ = _ := hs; omega))).ext hEw10)).chg hCw11 (fun hs => by have h : _ = _ := hs; omega))).ext hEw12)
    intro w13 hBw13 hCw13
    have hzw13 := hCw13.size
    rw [setFrom_all _ _ (by simp)] at hBw13
    refine wpF_run 1 [(3, (vI (chkR (Rec.of l))))] (wpF_end (then_code (wpC_ret (then_ret (body_ret2 (show resVal Tryd.prog 44 _ _ (.cell 2 35) (vA (recC Rec.zero)) from ⟨⟨w.heap.size, 0, none⟩, (by kernel_rfl), run_loadVar_agg (T := 35) (vs := recC Rec.zero) (hBw13).all (by rw [recC_len]; kernel_rfl)⟩) (show resVal Tryd.prog 44 _ _ (.tmp 3) (vI (chkR (Rec.of l))) by (show _ = _; kernel_rfl)) ?_)))))
    have hX1 : Ext w w13 := (Ext.own ((Ext.own ((Ext.own ((Ext.own (((Ext.own (Ext.own (hEw1.trans hEw2) hCw3 (by omega)) hCw4 (by omega)).trans hEw5).trans hEw6) hCw7 (by omega)).trans hEw8) hCw9 (by omega)).trans hEw10) hCw11 (by omega)).trans hEw12) hCw13 (by omega))
    rw [hp1]; exact ⟨rfl, hX1⟩
  · refine op_new (some 9) (Instr.alloc 35 true (.tuple #[])) (vP w8.heap.size 0) (recC Rec.zero) 35 ?_
    intro w14 hBw14 hEw14
    have hzw14 := hEw14.size; have hlw14 := hBw14.lt
    refine ⟨.inr ((Chg.refl (fun k => k = a1) w8).trans hEw14.chg), ?_⟩
    have hK5 := (((((((((hBw4.ext hEw5)).ext hEw6)).chg hCw7 (fun hs => by have h : _ = _ := hs; omega))).ext hEw8)).ext hEw14)
    have hK6 := (((((((((hQw4.ext hEw5)).ext hEw6)).chg hCw7 (fun k h1 h2 hs => by have h : k = _ := hs; omega))).ext hEw8)).ext hEw14)
    refine anyM_one 3 143 (op_call (some 33) (c_next 32 _ hK5 hK6 (by omega) (by omega)) ?_)
    rintro _ w15 ⟨a8, a9, rfl, hPw15, hBw15, hQw15, hCw15⟩
    have hzw15 := hCw15.size
    have hlew15 := hPw15.le; have hlew15q := hQw15.le
    refine ⟨.inr (Chg.then ((Chg.refl (fun k => k = a1) w8).trans hEw14.chg) hCw15 (fun k hk hs => by have h : k = _ := hs; first | exact hs | (exfalso; omega))), ?_⟩
    obtain ⟨b3, o3, rfl⟩ := hPw15.addr (by omega)
    refine anyM_take (hw := show Chg (fun k => k = a1) w8 w15 from (Chg.then ((Chg.refl (fun k => k = a1) w8).trans hEw14.chg) hCw15 (fun k hk hs => by have h : k = _ := hs; first | exact hs | (exfalso; omega)))) hT339 4 159 (some 34) (vP b3 o3) (yld_val (Instr.arrayAt 33 (.slice (pA b3 o3) 32 (c_l - 1 - 12))) (fun w' hC => run_arrPtr (m := 32) (E := 5) (by omega))) (anyM_class (C := Chg (fun k => k = a1) w8) (C' := Chg (fun k => k = a1) w15) (fun w' h => ((Chg.then ((Chg.refl (fun k => k = a1) w8).trans hEw14.chg) hCw15 (fun k hk hs => by have h : k = _ := hs; first | exact hs | (exfalso; omega)))).trans h) (anyM_take (hw := show Chg (fun k => k = a1) w15 w15 from (Chg.refl (fun k => k = a1) w15)) hT339 5 191 (some 35) (vA (digC (Dig.of (((l.drop 1).drop 12).take 32)))) (yld_val (Instr.loadAt 33 (vP b3 o3)) (fun w' hC => rn_lda (vs := digC (Dig.of (((l.drop 1).drop 12).take 32))) ((hPw15.chg hC (fun k h1 h2 hs => by have h : _ = _ := hs; omega)).atDig (by have := h_l.len_eq; simp; omega)) (by rw [digC_len]; kernel_rfl))) ?_))
    refine anyM_take (hw := show Chg (fun k => k = a1) w15 w15 from (Chg.refl (fun k => k = a1) w15)) hT339 6 255 (some 36) (vA (recC (Rec.of l))) (yld_val (Instr.build 35 #[(0, (vB (byt (l.take 1) 0))), (1, (vA (nonC (Non.of ((l.drop 1).take 12))))), (2, (vA (digC (Dig.of (((l.drop 1).drop 12).take 32)))))]) (fun w' hC => (run_build_rec (byt (l.take 1) 0) (Non.of ((l.drop 1).take 12)) (Dig.of (((l.drop 1).drop 12).take 32)) (byt_lt _ _)).trans (congrArg (fun z : Rec => Result.ok (Value.agg (recC z).toArray) _) (show (⟨byt (l.take 1) 0, (Non.of ((l.drop 1).take 12)), (Dig.of (((l.drop 1).drop 12).take 32)), byt_lt _ _⟩ : Rec) = Rec.of l from Rec.ext' (byt_take1 l) rfl (congrArg Dig.of (by rw [List.drop_drop])))))) (anyM_one 8 511 (op_store 35 w8.heap.size 0 35 (vA (recC (Rec.of l))) (recC Rec.zero) (recC (Rec.of l)) ((hBw14).chg hCw15 (fun hs => by have h : _ = _ := hs; omega)) (by rw [recC_len]; kernel_rfl) (by simp) (recC_one _) ?_))
    intro w16 hBw16 hCw16
    have hzw16 := hCw16.size
    rw [setFrom_all _ _ (by simp)] at hBw16
    refine ⟨.inl (by kernel_rfl), ?_⟩
    refine anyM_done (then_code (wpC_seq (wpC_seq (wpC_region (wpF_step (op_v (some 37) (Instr.loadAt 35 (vP w8.heap.size 0)) (vA (recC (Rec.of l))) (rn_lda (vs := recC (Rec.of l)) (hBw16.all) (by rw [recC_len]; kernel_rfl)) ?_))))))
    refine wpF_step (op_call (some 38) (c_CheckRecord (Rec.of l) _) ?_)
    rintro _ w17 ⟨rfl, hEw17⟩
    have hzw17 := hEw17.size
    refine wpF_run 1 [(10, (vI (chkR (Rec.of l))))] (wpF_end (then_code (wpC_seq (wpC_region (wpF_run 1 [(39, (vI (chkR (Rec.of l))))] (wpF_step (op_b (some 40) (((chkR (Rec.of l) : Nat) : Int) != ((0 : Nat) : Int)) true (cmpNeT (by omega)) ?_)))))))
    refine wpF_end (then_code (wpC_true (wpC_seq (wpC_region (wpF_run 2 [(42, (vI (chkR (Rec.of l)))), (41, (vA (recC Rec.zero)))] ?_)))))
    have hK7 := (((((((((((((((((((((hBw1.ext hEw2)).chg hCw3 (fun hs => by have h : _ = _ := hs; omega))).chg hCw4 (fun hs => by have h : _ = _ := hs; omega))).ext hEw5)).ext hEw6)).chg hCw7 (fun hs => by have h : _ = _ := hs; omega))).ext hEw8)).ext hEw14)).chg hCw15 (fun hs => by have h : _ = _ := hs; omega))).chg hCw16 (fun hs => by have h : _ = _ := hs; omega))).ext hEw17)
    refine wpF_step (op_store 35 w.heap.size 0 35 (vA (recC Rec.zero)) (recC Rec.zero) (recC Rec.zero) hK7 (by rw [recC_len]; kernel_rfl) (by simp) (recC_one _) ?_)
    have hK8 := (((((((((((((((((((((hBw1.ext hEw2)).chg hCw3 (fun hs => by have h : _ = _ := hs; omega))).chg hCw4 (fun hs => by have h : _ = _ := hs; omega))).ext hEw5)).ext hEw6)).chg hCw7 (fun hs => by have h : _ = _ := hs; omega))).ext hEw8)).ext hEw14)).chg hCw15 (fun hs => by have h : _ = _ := hs; omega))).chg hCw16 (fun hs => by have h : _ = _ := hs; omega))).ext hEw17)
    intro w18 hBw18 hCw18
    have hzw18 := hCw18.size
    rw [setFrom_all _ _ (by simp)] at hBw18
    refine wpF_run 1 [(3, (vI (chkR (Rec.of l))))] (wpF_end (then_code (wpC_ret (then_ret (body_ret2 (show resVal Tryd.prog 44 _ _ (.cell 2 35) (vA (recC Rec.zero)) from ⟨⟨w.heap.size, 0, none⟩, (by kernel_rfl), run_loadVar_agg (T := 35) (vs := recC Rec.zero) (hBw18).all (by rw [recC_len]; kernel_rfl)⟩) (show resVal Tryd.prog 44 _ _ (.tmp 3) (vI (chkR (Rec.of l))) by (show _ = _; kernel_rfl)) ?_)))))
    have hX2 : Ext w w18 := (Ext.own ((Ext.own (Ext.own (((Ext.own (((Ext.own (Ext.own (hEw1.trans hEw2) hCw3 (by omega)) hCw4 (by omega)).trans hEw5).trans hEw6) hCw7 (by omega)).trans hEw8).trans hEw14) hCw15 (by omega)) hCw16 (by omega)).trans hEw17) hCw18 (by omega))
    rw [hp1]; exact ⟨rfl, hX2⟩

end Go.Proofs.YtpcbhalagllhnaaDoor
