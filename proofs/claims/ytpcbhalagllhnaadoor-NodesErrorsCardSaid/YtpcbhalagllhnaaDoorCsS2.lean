/- CsS2: what each function does, by its own code. No condition beyond those of each statement. -/
import Derived.Test.YtpcbhalagllhnaaDoorCsS1
namespace Go.Proofs.YtpcbhalagllhnaaDoor
open Go Go.RowKit Go.Cs
set_option maxRecDepth 100000
set_option linter.all false
set_option linter.unusedVariables false

theorem c_at (n : Nat) (l : Nat) (j : Nat)  (w : World) (hp0 : 1 ≤ n) (hp1 : n ≤ 4096) (hp2 : l ≤ hgt n) (hp3 : j < cnt n l) :
    Calls Tryd.prog 60 #[(vI n), (vA [(vI l), (vI j)])] w (Ret fun r w' => ∃ a1 ca1, r = (.tuple #[(vA [(vI n), (.slice a1 (hgt n + 1) ca1)]), (vI 0)]) ∧ Es (nv .i64) w.heap.size w'.heap.size w' a1 (hgt n + 1) ca1 (cts n) ∧ Ext w w') := by
  refine calls_of (n := 46) (σ := [(0, (vI n)), (1, (vA [(vI l), (vI j)]))]) Tryd.func60 rfl ?_
  have h5 := hgt_le n
  refine wpC_seq (wpC_region (wpF_step (op_new (some 3) (Instr.box 113 (vA [(vI l), (vI j)])) (vP w.heap.size 0) ([(vI l), (vI j)]) 113 ?_)))
  intro w1 hBw1 hEw1
  have hzw1 := hEw1.size; have hlw1 := hBw1.lt
  refine wpF_step (op_new (some 4) (Instr.alloc 109 true (.tuple #[])) (vP w1.heap.size 0) ([(vI 0), (.slice none 0 0)]) 109 ?_)
  intro w2 hBw2 hEw2
  have hzw2 := hEw2.size; have hlw2 := hBw2.lt
  refine wpF_run 1 [(5, (vI 0))] (wpF_end (then_code (wpC_seq (wpC_region (wpF_run 1 [(9, (vI n))] (wpF_step (op_call (some 10) (c_of n _ (by omega) (by omega)) ?_)))))))
  rintro _ w3 ⟨a1, ca1, rfl, hFz1_0, hEw3⟩
  have hzw3 := hEw3.size
  have hlea1 := hFz1_0.le
  refine wpF_run 3 [(12, (vI 0)), (11, (vA [(vI n), (.slice a1 (hgt n + 1) ca1)])), (8, (.tuple #[(vA [(vI n), (.slice a1 (hgt n + 1) ca1)]), (vI 0)]))] (wpF_step (op_new (some 6) (Instr.alloc 109 true (.tuple #[])) (vP w3.heap.size 0) ([(vI 0), (.slice none 0 0)]) 109 ?_))
  intro w4 hBw4 hEw4
  have hzw4 := hEw4.size; have hlw4 := hBw4.lt
  refine wpF_step (op_store 109 w3.heap.size 0 109 (vA [(vI n), (.slice a1 (hgt n + 1) ca1)]) ([(vI 0), (.slice none 0 0)]) ([(vI n), (.slice a1 (hgt n + 1) ca1)]) hBw4 (by kernel_rfl) (by first | decide | (simp; done) | (simp; omega)) (by simp [Value.oneCell']) ?_)
  intro w5 hBw5 hCw5
  have hzw5 := hCw5.size
  rw [setFrom_all _ _ (by kernel_rfl)] at hBw5
  refine wpF_run 1 [(7, (vI 0))] (wpF_end (then_code (wpC_seq (wpC_seq (wpC_drawM (Ext w5.drew) 31 [(14, 128, 0), (15, 8192, 1), (16, 16384, 2), (17, 32776, 4), (18, 98304, 12), (19, 163840, 20), (20, 294912, 36), (21, 524296, 64), (22, 1572864, 192), (23, 524352, 64), (24, 4718592, 576), (25, 8912896, 1088), (26, 19398656, 2368), (27, 34111488, 4164), (28, 67141632, 8260), (29, 134217736, 16384), (30, 402653184, 49152), (31, 671088640, 81920), (32, 1207992320, 147460), (33, 2147516416, 278532), (34, 4294967304, 524288), (35, 12884901888, 1572864), (36, 4294967360, 524288), (37, 38654705664, 4718592), (38, 4294967304, 524288), (39, 141733920768, 17301504), (40, 347892350976, 42467328), (41, 554050781184, 67633152), (42, 1120986464256, 136839168), (43, 2203318255616, 268959748), (44, 4398046543872, 536870916)] (fun hT35 => ?_))))))
  have hEw6 : Ext w5 w5.drew := Ext.drew w5
  generalize w5.drew = w6 at hEw6 ⊢
  have hzw6 := hEw6.size
  refine anyM_run hT35 [(0, 13, (vI 0))] 1 1 (anyM_take hT35 1 3 (some 14) vT (yld_b (((0 : Nat) : Int) == ((0 : Nat) : Int)) (cmpEqT (by omega))) (anyM_run hT35 [(2, 15, vT), (3, 16, (vP w.heap.size 0))] 2 15 ?_))
  have hK1 := (((((((((hBw1.ext hEw2)).ext hEw3)).ext hEw4)).chg hCw5 (fun hs => by have h : _ = _ := hs; omega))).ext hEw6)
  refine anyM_take hT35 4 31 (some 17) (vI l) (yld_val (Instr.loadAt 3 (vP w.heap.size 0)) (fun w' hC => rn_ld ((hK1.ext hC).cell rfl))) (anyM_take hT35 5 63 (some 18) vF (yld_b (decide (((l : Nat) : Int) < ((0 : Nat) : Int))) (cmpDF (by omega))) (anyM_run hT35 [(6, 19, vF), (7, 20, (vP w.heap.size 0))] 2 255 (anyM_take hT35 8 511 (some 21) (vI l) (yld_val (Instr.loadAt 3 (vP w.heap.size 0)) (fun w' hC => rn_ld ((hK1.ext hC).cell rfl))) (anyM_run hT35 [(9, 22, (vP w3.heap.size 1))] 1 1023 (anyM_take hT35 10 2047 (some 23) (.slice a1 (hgt n + 1) ca1) (yld_val (Instr.loadAt 107 (vP w3.heap.size 1)) (fun w' hC => rn_ld (((hBw5.ext hEw6).ext hC).cell rfl))) (anyM_run hT35 [(11, 24, (vI (hgt n + 1)))] 1 4095 (anyM_take hT35 12 8191 (some 25) vF (yld_b (decide (((l : Nat) : Int) ≥ ((hgt n + 1 : Nat) : Int))) (cmpDF (by omega))) (anyM_run hT35 [(13, 26, vF), (14, 27, vF), (15, 28, (vP w.heap.size 1))] 3 65535 (anyM_take hT35 16 131071 (some 29) (vI j) (yld_val (Instr.loadAt 3 (vP w.heap.size 1)) (fun w' hC => rn_ld ((hK1.ext hC).cell rfl))) ?_)))))))))
  refine anyM_take hT35 17 262143 (some 30) vF (yld_b (decide (((j : Nat) : Int) < ((0 : Nat) : Int))) (cmpDF (by omega))) (anyM_run hT35 [(18, 31, vF), (19, 32, vF), (20, 33, (vP w.heap.size 1))] 3 2097151 (anyM_take hT35 21 4194303 (some 34) (vI j) (yld_val (Instr.loadAt 3 (vP w.heap.size 1)) (fun w' hC => rn_ld ((hK1.ext hC).cell rfl))) (anyM_run hT35 [(22, 35, (vP w3.heap.size 1))] 1 8388607 (anyM_take hT35 23 16777215 (some 36) (.slice a1 (hgt n + 1) ca1) (yld_val (Instr.loadAt 107 (vP w3.heap.size 1)) (fun w' hC => rn_ld (((hBw5.ext hEw6).ext hC).cell rfl))) (anyM_run hT35 [(24, 37, (vP w.heap.size 0))] 1 33554431 (anyM_take hT35 25 67108863 (some 38) (vI l) (yld_val (Instr.loadAt 3 (vP w.heap.size 0)) (fun w' hC => rn_ld ((hK1.ext hC).cell rfl))) ?_))))))
  obtain ⟨b1, o1, rfl⟩ := hFz1_0.addr (by omega)
  refine anyM_take hT35 26 134217727 (some 39) (vP b1 (o1 + l * 1)) (yld_val (Instr.indexAt 107 (.slice (pA b1 o1) (hgt n + 1) ca1) (vI l)) (fun w' hC => rn_ixs (E := 3) (sz := 1) (by omega))) ?_
  have hK2 := (((((hFz1_0.ext hEw4)).chg hCw5 (fun k h1 h2 hs => by have h : k = _ := hs; omega))).ext hEw6)
  refine anyM_take hT35 27 268435455 (some 40) (vI (gt (cts n) l)) (yld_val (Instr.loadAt 3 (vP b1 (o1 + l * 1))) (fun w' hC => rn_ld ((hK2.ext hC).celln (by omega)))) (anyM_take hT35 28 536870911 (some 41) vF (yld_b (decide (((j : Nat) : Int) ≥ ((gt (cts n) l : Nat) : Int))) (cmpDF (by rw [gt_cts hp2]; omega))) (anyM_run hT35 [(29, 42, vF), (30, 43, vF)] 2 2147483647 (anyM_done (then_code (wpC_false (wpC_skip (then_code (wpC_seq (wpC_region ?_)))))))))
  refine wpF_step (op_v (some 44) (Instr.loadAt 109 (vP w3.heap.size 0)) (vA [(vI n), (.slice (pA b1 o1) (hgt n + 1) ca1)]) (rn_lda (vs := [(vI n), (.slice (pA b1 o1) (hgt n + 1) ca1)]) ((hBw5.ext hEw6).all)) ?_)
  refine wpF_run 1 [(45, (vI 0))] ?_
  have hK3 := (((((((hBw2.ext hEw3)).ext hEw4)).chg hCw5 (fun hs => by have h : _ = _ := hs; omega))).ext hEw6)
  refine wpF_step (op_store 109 w1.heap.size 0 109 (vA [(vI n), (.slice (pA b1 o1) (hgt n + 1) ca1)]) ([(vI 0), (.slice none 0 0)]) ([(vI n), (.slice (pA b1 o1) (hgt n + 1) ca1)]) hK3 (by kernel_rfl) (by first | decide | (simp; done) | (simp; omega)) (by simp [Value.oneCell']) ?_)
  have hK4 := (((((((hBw2.ext hEw3)).ext hEw4)).chg hCw5 (fun hs => by have h : _ = _ := hs; omega))).ext hEw6)
  intro w7 hBw7 hCw7
  have hzw7 := hCw7.size
  rw [setFrom_all _ _ (by kernel_rfl)] at hBw7
  refine wpF_run 1 [(5, (vI 0))] (wpF_end (then_code (wpC_ret (body_ret2 (show resVal Tryd.prog 46 _ _ (.cell 4 109) (vA [(vI n), (.slice (pA b1 o1) (hgt n + 1) ca1)]) from ⟨⟨w1.heap.size, 0, none⟩, (by kernel_rfl), run_loadVar_agg (T := 109) (vs := [(vI n), (.slice (pA b1 o1) (hgt n + 1) ca1)]) (hBw7).all (by kernel_rfl)⟩) (show resVal Tryd.prog 46 _ _ (.tmp 5) (vI 0) by (show _ = _; kernel_rfl)) ?_))))
  have hX1 : Ext w w7 := (Ext.own ((Ext.own (((hEw1.trans hEw2).trans hEw3).trans hEw4) hCw5 (by omega)).trans hEw6) hCw7 (by omega))
  exact ⟨_, _, rfl, (((hK2).chg hCw7 (fun k h1 h2 hs => by have h : k = _ := hs; omega))).now.mono (by omega) (Nat.le_refl _), hX1⟩

theorem c_atB0 (n : Int) (l : Int) (j : Int)  (w : World) (hp0 : ¬ (1 ≤ n ∧ n ≤ 4096)) :
    Calls Tryd.prog 60 #[(.int .i64 n), (vA [(.int .i64 l), (.int .i64 j)])] w (Ret fun r w' => ∃ (a0 : Int) (a1 : Option Addr) (na1 : Nat) (ca1 : Nat), r = (.tuple #[(vA [(.int .i64 a0), (.slice a1 na1 ca1)]), (vI 1)]) ∧ Ext w w') := by
  refine calls_of (n := 46) (σ := [(0, (.int .i64 n)), (1, (vA [(.int .i64 l), (.int .i64 j)]))]) Tryd.func60 rfl ?_
  refine wpC_seq (wpC_region (wpF_step (op_new (some 3) (Instr.box 113 (vA [(.int .i64 l), (.int .i64 j)])) (vP w.heap.size 0) ([(.int .i64 l), (.int .i64 j)]) 113 ?_)))
  intro w1 hBw1 hEw1
  have hzw1 := hEw1.size; have hlw1 := hBw1.lt
  refine wpF_step (op_new (some 4) (Instr.alloc 109 true (.tuple #[])) (vP w1.heap.size 0) ([(vI 0), (.slice none 0 0)]) 109 ?_)
  intro w2 hBw2 hEw2
  have hzw2 := hEw2.size; have hlw2 := hBw2.lt
  refine wpF_run 1 [(5, (vI 0))] (wpF_end (then_code (wpC_seq (wpC_region (wpF_run 1 [(9, (.int .i64 n))] (wpF_step (op_call (some 10) (c_ofBad n _ (by omega)) ?_)))))))
  rintro _ w3 ⟨rfl, hEw3⟩
  have hzw3 := hEw3.size
  refine wpF_run 3 [(12, (vI 1)), (11, (vA [(vI 0), (.slice none 0 0)])), (8, (.tuple #[(vA [(vI 0), (.slice none 0 0)]), (vI 1)]))] (wpF_step (op_new (some 6) (Instr.alloc 109 true (.tuple #[])) (vP w3.heap.size 0) ([(vI 0), (.slice none 0 0)]) 109 ?_))
  intro w4 hBw4 hEw4
  have hzw4 := hEw4.size; have hlw4 := hBw4.lt
  refine wpF_step (op_store 109 w3.heap.size 0 109 (vA [(vI 0), (.slice none 0 0)]) ([(vI 0), (.slice none 0 0)]) ([(vI 0), (.slice none 0 0)]) hBw4 (by kernel_rfl) (by first | decide | (simp; done) | (simp; omega)) (by simp [Value.oneCell']) ?_)
  intro w5 hBw5 hCw5
  have hzw5 := hCw5.size
  rw [setFrom_all _ _ (by kernel_rfl)] at hBw5
  refine wpF_run 1 [(7, (vI 1))] (wpF_end (then_code (wpC_seq (wpC_seq (wpC_drawM (Ext w5.drew) 31 [(14, 128, 0), (15, 8192, 1), (16, 16384, 2), (17, 32776, 4), (18, 98304, 12), (19, 163840, 20), (20, 294912, 36), (21, 524296, 64), (22, 1572864, 192), (23, 524352, 64), (24, 4718592, 576), (25, 8912896, 1088), (26, 19398656, 2368), (27, 34111488, 4164), (28, 67141632, 8260), (29, 134217736, 16384), (30, 402653184, 49152), (31, 671088640, 81920), (32, 1207992320, 147460), (33, 2147516416, 278532), (34, 4294967304, 524288), (35, 12884901888, 1572864), (36, 4294967360, 524288), (37, 38654705664, 4718592), (38, 4294967304, 524288), (39, 141733920768, 17301504), (40, 347892350976, 42467328), (41, 554050781184, 67633152), (42, 1120986464256, 136839168), (43, 2203318255616, 268959748), (44, 4398046543872, 536870916)] (fun hT78 => ?_))))))
  have hEw6 : Ext w5 w5.drew := Ext.drew w5
  generalize w5.drew = w6 at hEw6 ⊢
  have hzw6 := hEw6.size
  refine anyM_run hT78 [(0, 13, (vI 1))] 1 1 (anyM_take hT78 1 3 (some 14) vF (yld_b (((1 : Nat) : Int) == ((0 : Nat) : Int)) (cmpEqF (by omega))) (anyM_run hT78 [(2, 15, vF), (3, 16, undef), (4, 17, undef), (5, 18, undef), (6, 19, undef), (7, 20, undef), (8, 21, undef), (9, 22, undef), (10, 23, undef), (11, 24, undef), (12, 25, undef), (13, 26, undef), (14, 27, undef), (15, 28, undef), (16, 29, undef), (17, 30, undef), (18, 31, undef), (19, 32, undef), (20, 33, undef), (21, 34, undef), (22, 35, undef), (23, 36, undef), (24, 37, undef), (25, 38, undef), (26, 39, undef), (27, 40, undef), (28, 41, undef), (29, 42, undef), (30, 43, vF)] 29 2147483647 (anyM_done (then_code (wpC_false (wpC_skip (then_code (wpC_seq (wpC_region ?_)))))))))
  refine wpF_step (op_v (some 44) (Instr.loadAt 109 (vP w3.heap.size 0)) (vA [(vI 0), (.slice none 0 0)]) (rn_lda (vs := [(vI 0), (.slice none 0 0)]) ((hBw5.ext hEw6).all)) ?_)
  refine wpF_run 1 [(45, (vI 1))] ?_
  have hK1 := (((((((hBw2.ext hEw3)).ext hEw4)).chg hCw5 (fun hs => by have h : _ = _ := hs; omega))).ext hEw6)
  refine wpF_step (op_store 109 w1.heap.size 0 109 (vA [(vI 0), (.slice none 0 0)]) ([(vI 0), (.slice none 0 0)]) ([(vI 0), (.slice none 0 0)]) hK1 (by kernel_rfl) (by first | decide | (simp; done) | (simp; omega)) (by simp [Value.oneCell']) ?_)
  have hK2 := (((((((hBw2.ext hEw3)).ext hEw4)).chg hCw5 (fun hs => by have h : _ = _ := hs; omega))).ext hEw6)
  intro w7 hBw7 hCw7
  have hzw7 := hCw7.size
  rw [setFrom_all _ _ (by kernel_rfl)] at hBw7
  refine wpF_run 1 [(5, (vI 1))] (wpF_end (then_code (wpC_ret (body_ret2 (show resVal Tryd.prog 46 _ _ (.cell 4 109) (vA [(vI 0), (.slice none 0 0)]) from ⟨⟨w1.heap.size, 0, none⟩, (by kernel_rfl), run_loadVar_agg (T := 109) (vs := [(vI 0), (.slice none 0 0)]) (hBw7).all (by kernel_rfl)⟩) (show resVal Tryd.prog 46 _ _ (.tmp 5) (vI 1) by (show _ = _; kernel_rfl)) ?_))))
  have hX1 : Ext w w7 := (Ext.own ((Ext.own (((hEw1.trans hEw2).trans hEw3).trans hEw4) hCw5 (by omega)).trans hEw6) hCw7 (by omega))
  exact ⟨_, _, _, _, rfl, hX1⟩

theorem c_atB1 (n : Nat) (l : Int) (j : Int)  (w : World) (hp0 : 1 ≤ n) (hp1 : n ≤ 4096) (hp2 : l < 0) :
    Calls Tryd.prog 60 #[(vI n), (vA [(.int .i64 l), (.int .i64 j)])] w (Ret fun r w' => ∃ (a0 : Int) (a1 : Option Addr) (na1 : Nat) (ca1 : Nat), r = (.tuple #[(vA [(.int .i64 a0), (.slice a1 na1 ca1)]), (vI 1)]) ∧ Ext w w') := by
  refine calls_of (n := 46) (σ := [(0, (vI n)), (1, (vA [(.int .i64 l), (.int .i64 j)]))]) Tryd.func60 rfl ?_
  refine wpC_seq (wpC_region (wpF_step (op_new (some 3) (Instr.box 113 (vA [(.int .i64 l), (.int .i64 j)])) (vP w.heap.size 0) ([(.int .i64 l), (.int .i64 j)]) 113 ?_)))
  intro w1 hBw1 hEw1
  have hzw1 := hEw1.size; have hlw1 := hBw1.lt
  refine wpF_step (op_new (some 4) (Instr.alloc 109 true (.tuple #[])) (vP w1.heap.size 0) ([(vI 0), (.slice none 0 0)]) 109 ?_)
  intro w2 hBw2 hEw2
  have hzw2 := hEw2.size; have hlw2 := hBw2.lt
  refine wpF_run 1 [(5, (vI 0))] (wpF_end (then_code (wpC_seq (wpC_region (wpF_run 1 [(9, (vI n))] (wpF_step (op_call (some 10) (c_of n _ (by omega) (by omega)) ?_)))))))
  rintro _ w3 ⟨a1, ca1, rfl, hFz1_0, hEw3⟩
  have hzw3 := hEw3.size
  have hlea1 := hFz1_0.le
  refine wpF_run 3 [(12, (vI 0)), (11, (vA [(vI n), (.slice a1 (hgt n + 1) ca1)])), (8, (.tuple #[(vA [(vI n), (.slice a1 (hgt n + 1) ca1)]), (vI 0)]))] (wpF_step (op_new (some 6) (Instr.alloc 109 true (.tuple #[])) (vP w3.heap.size 0) ([(vI 0), (.slice none 0 0)]) 109 ?_))
  intro w4 hBw4 hEw4
  have hzw4 := hEw4.size; have hlw4 := hBw4.lt
  refine wpF_step (op_store 109 w3.heap.size 0 109 (vA [(vI n), (.slice a1 (hgt n + 1) ca1)]) ([(vI 0), (.slice none 0 0)]) ([(vI n), (.slice a1 (hgt n + 1) ca1)]) hBw4 (by kernel_rfl) (by first | decide | (simp; done) | (simp; omega)) (by simp [Value.oneCell']) ?_)
  intro w5 hBw5 hCw5
  have hzw5 := hCw5.size
  rw [setFrom_all _ _ (by kernel_rfl)] at hBw5
  refine wpF_run 1 [(7, (vI 0))] (wpF_end (then_code (wpC_seq (wpC_seq (wpC_drawM (Ext w5.drew) 31 [(14, 128, 0), (15, 8192, 1), (16, 16384, 2), (17, 32776, 4), (18, 98304, 12), (19, 163840, 20), (20, 294912, 36), (21, 524296, 64), (22, 1572864, 192), (23, 524352, 64), (24, 4718592, 576), (25, 8912896, 1088), (26, 19398656, 2368), (27, 34111488, 4164), (28, 67141632, 8260), (29, 134217736, 16384), (30, 402653184, 49152), (31, 671088640, 81920), (32, 1207992320, 147460), (33, 2147516416, 278532), (34, 4294967304, 524288), (35, 12884901888, 1572864), (36, 4294967360, 524288), (37, 38654705664, 4718592), (38, 4294967304, 524288), (39, 141733920768, 17301504), (40, 347892350976, 42467328), (41, 554050781184, 67633152), (42, 1120986464256, 136839168), (43, 2203318255616, 268959748), (44, 4398046543872, 536870916)] (fun hT115 => ?_))))))
  have hEw6 : Ext w5 w5.drew := Ext.drew w5
  generalize w5.drew = w6 at hEw6 ⊢
  have hzw6 := hEw6.size
  refine anyM_run hT115 [(0, 13, (vI 0))] 1 1 (anyM_take hT115 1 3 (some 14) vT (yld_b (((0 : Nat) : Int) == ((0 : Nat) : Int)) (cmpEqT (by omega))) (anyM_run hT115 [(2, 15, vT), (3, 16, (vP w.heap.size 0))] 2 15 ?_))
  have hK1 := (((((((((hBw1.ext hEw2)).ext hEw3)).ext hEw4)).chg hCw5 (fun hs => by have h : _ = _ := hs; omega))).ext hEw6)
  refine anyM_take hT115 4 31 (some 17) (.int .i64 l) (yld_val (Instr.loadAt 3 (vP w.heap.size 0)) (fun w' hC => rn_ld ((hK1.ext hC).cell rfl))) (anyM_take hT115 5 63 (some 18) vT (yld_b (decide (l < ((0 : Nat) : Int))) (cmpDT (by omega))) (anyM_run hT115 [(6, 19, vT), (7, 20, undef), (8, 21, undef), (9, 22, undef), (10, 23, undef), (11, 24, undef), (12, 25, undef), (13, 26, vT), (14, 27, vT), (15, 28, undef), (16, 29, undef), (17, 30, undef), (18, 31, vT), (19, 32, vT), (20, 33, undef), (21, 34, undef), (22, 35, undef), (23, 36, undef), (24, 37, undef), (25, 38, undef), (26, 39, undef), (27, 40, undef), (28, 41, undef), (29, 42, vT), (30, 43, vT)] 25 2147483647 (anyM_done (then_code (wpC_true (wpC_region (wpF_run 1 [(7, (vI 1))] (wpF_end (then_code ?_)))))))))
  refine wpC_seq (wpC_region (wpF_step (op_v (some 44) (Instr.loadAt 109 (vP w3.heap.size 0)) (vA [(vI n), (.slice a1 (hgt n + 1) ca1)]) (rn_lda (vs := [(vI n), (.slice a1 (hgt n + 1) ca1)]) ((hBw5.ext hEw6).all)) ?_)))
  refine wpF_run 1 [(45, (vI 1))] ?_
  have hK2 := (((((((hBw2.ext hEw3)).ext hEw4)).chg hCw5 (fun hs => by have h : _ = _ := hs; omega))).ext hEw6)
  refine wpF_step (op_store 109 w1.heap.size 0 109 (vA [(vI n), (.slice a1 (hgt n + 1) ca1)]) ([(vI 0), (.slice none 0 0)]) ([(vI n), (.slice a1 (hgt n + 1) ca1)]) hK2 (by kernel_rfl) (by first | decide | (simp; done) | (simp; omega)) (by simp [Value.oneCell']) ?_)
  have hK3 := (((((((hBw2.ext hEw3)).ext hEw4)).chg hCw5 (fun hs => by have h : _ = _ := hs; omega))).ext hEw6)
  intro w7 hBw7 hCw7
  have hzw7 := hCw7.size
  rw [setFrom_all _ _ (by kernel_rfl)] at hBw7
  refine wpF_run 1 [(5, (vI 1))] (wpF_end (then_code (wpC_ret (body_ret2 (show resVal Tryd.prog 46 _ _ (.cell 4 109) (vA [(vI n), (.slice a1 (hgt n + 1) ca1)]) from ⟨⟨w1.heap.size, 0, none⟩, (by kernel_rfl), run_loadVar_agg (T := 109) (vs := [(vI n), (.slice a1 (hgt n + 1) ca1)]) (hBw7).all (by kernel_rfl)⟩) (show resVal Tryd.prog 46 _ _ (.tmp 5) (vI 1) by (show _ = _; kernel_rfl)) ?_))))
  have hX1 : Ext w w7 := (Ext.own ((Ext.own (((hEw1.trans hEw2).trans hEw3).trans hEw4) hCw5 (by omega)).trans hEw6) hCw7 (by omega))
  exact ⟨_, _, _, _, rfl, hX1⟩

theorem c_atB2 (n : Nat) (l : Int) (j : Int)  (w : World) (hp0 : 1 ≤ n) (hp1 : n ≤ 4096) (hp2 : (hgt n : Int) < l) :
    Calls Tryd.prog 60 #[(vI n), (vA [(.int .i64 l), (.int .i64 j)])] w (Ret fun r w' => ∃ (a0 : Int) (a1 : Option Addr) (na1 : Nat) (ca1 : Nat), r = (.tuple #[(vA [(.int .i64 a0), (.slice a1 na1 ca1)]), (vI 1)]) ∧ Ext w w') := by
  refine calls_of (n := 46) (σ := [(0, (vI n)), (1, (vA [(.int .i64 l), (.int .i64 j)]))]) Tryd.func60 rfl ?_
  refine wpC_seq (wpC_region (wpF_step (op_new (some 3) (Instr.box 113 (vA [(.int .i64 l), (.int .i64 j)])) (vP w.heap.size 0) ([(.int .i64 l), (.int .i64 j)]) 113 ?_)))
  intro w1 hBw1 hEw1
  have hzw1 := hEw1.size; have hlw1 := hBw1.lt
  refine wpF_step (op_new (some 4) (Instr.alloc 109 true (.tuple #[])) (vP w1.heap.size 0) ([(vI 0), (.slice none 0 0)]) 109 ?_)
  intro w2 hBw2 hEw2
  have hzw2 := hEw2.size; have hlw2 := hBw2.lt
  refine wpF_run 1 [(5, (vI 0))] (wpF_end (then_code (wpC_seq (wpC_region (wpF_run 1 [(9, (vI n))] (wpF_step (op_call (some 10) (c_of n _ (by omega) (by omega)) ?_)))))))
  rintro _ w3 ⟨a1, ca1, rfl, hFz1_0, hEw3⟩
  have hzw3 := hEw3.size
  have hlea1 := hFz1_0.le
  refine wpF_run 3 [(12, (vI 0)), (11, (vA [(vI n), (.slice a1 (hgt n + 1) ca1)])), (8, (.tuple #[(vA [(vI n), (.slice a1 (hgt n + 1) ca1)]), (vI 0)]))] (wpF_step (op_new (some 6) (Instr.alloc 109 true (.tuple #[])) (vP w3.heap.size 0) ([(vI 0), (.slice none 0 0)]) 109 ?_))
  intro w4 hBw4 hEw4
  have hzw4 := hEw4.size; have hlw4 := hBw4.lt
  refine wpF_step (op_store 109 w3.heap.size 0 109 (vA [(vI n), (.slice a1 (hgt n + 1) ca1)]) ([(vI 0), (.slice none 0 0)]) ([(vI n), (.slice a1 (hgt n + 1) ca1)]) hBw4 (by kernel_rfl) (by first | decide | (simp; done) | (simp; omega)) (by simp [Value.oneCell']) ?_)
  intro w5 hBw5 hCw5
  have hzw5 := hCw5.size
  rw [setFrom_all _ _ (by kernel_rfl)] at hBw5
  refine wpF_run 1 [(7, (vI 0))] (wpF_end (then_code (wpC_seq (wpC_seq (wpC_drawM (Ext w5.drew) 31 [(14, 128, 0), (15, 8192, 1), (16, 16384, 2), (17, 32776, 4), (18, 98304, 12), (19, 163840, 20), (20, 294912, 36), (21, 524296, 64), (22, 1572864, 192), (23, 524352, 64), (24, 4718592, 576), (25, 8912896, 1088), (26, 19398656, 2368), (27, 34111488, 4164), (28, 67141632, 8260), (29, 134217736, 16384), (30, 402653184, 49152), (31, 671088640, 81920), (32, 1207992320, 147460), (33, 2147516416, 278532), (34, 4294967304, 524288), (35, 12884901888, 1572864), (36, 4294967360, 524288), (37, 38654705664, 4718592), (38, 4294967304, 524288), (39, 141733920768, 17301504), (40, 347892350976, 42467328), (41, 554050781184, 67633152), (42, 1120986464256, 136839168), (43, 2203318255616, 268959748), (44, 4398046543872, 536870916)] (fun hT154 => ?_))))))
  have hEw6 : Ext w5 w5.drew := Ext.drew w5
  generalize w5.drew = w6 at hEw6 ⊢
  have hzw6 := hEw6.size
  refine anyM_run hT154 [(0, 13, (vI 0))] 1 1 (anyM_take hT154 1 3 (some 14) vT (yld_b (((0 : Nat) : Int) == ((0 : Nat) : Int)) (cmpEqT (by omega))) (anyM_run hT154 [(2, 15, vT), (3, 16, (vP w.heap.size 0))] 2 15 ?_))
  have hK1 := (((((((((hBw1.ext hEw2)).ext hEw3)).ext hEw4)).chg hCw5 (fun hs => by have h : _ = _ := hs; omega))).ext hEw6)
  refine anyM_take hT154 4 31 (some 17) (.int .i64 l) (yld_val (Instr.loadAt 3 (vP w.heap.size 0)) (fun w' hC => rn_ld ((hK1.ext hC).cell rfl))) (anyM_take hT154 5 63 (some 18) vF (yld_b (decide (l < ((0 : Nat) : Int))) (cmpDF (by omega))) (anyM_run hT154 [(6, 19, vF), (7, 20, (vP w.heap.size 0))] 2 255 (anyM_take hT154 8 511 (some 21) (.int .i64 l) (yld_val (Instr.loadAt 3 (vP w.heap.size 0)) (fun w' hC => rn_ld ((hK1.ext hC).cell rfl))) (anyM_run hT154 [(9, 22, (vP w3.heap.size 1))] 1 1023 (anyM_take hT154 10 2047 (some 23) (.slice a1 (hgt n + 1) ca1) (yld_val (Instr.loadAt 107 (vP w3.heap.size 1)) (fun w' hC => rn_ld (((hBw5.ext hEw6).ext hC).cell rfl))) (anyM_run hT154 [(11, 24, (vI (hgt n + 1)))] 1 4095 (anyM_take hT154 12 8191 (some 25) vT (yld_b (decide (l ≥ ((hgt n + 1 : Nat) : Int))) (cmpDT (by omega))) (anyM_run hT154 [(13, 26, vT), (14, 27, vT), (15, 28, undef), (16, 29, undef), (17, 30, undef), (18, 31, vT), (19, 32, vT), (20, 33, undef), (21, 34, undef), (22, 35, undef), (23, 36, undef), (24, 37, undef), (25, 38, undef), (26, 39, undef), (27, 40, undef), (28, 41, undef), (29, 42, vT), (30, 43, vT)] 18 2147483647 (anyM_done ?_)))))))))
  refine then_code (wpC_true (wpC_region (wpF_run 1 [(7, (vI 1))] (wpF_end (then_code (wpC_seq (wpC_region (wpF_step (op_v (some 44) (Instr.loadAt 109 (vP w3.heap.size 0)) (vA [(vI n), (.slice a1 (hgt n + 1) ca1)]) (rn_lda (vs := [(vI n), (.slice a1 (hgt n + 1) ca1)]) ((hBw5.ext hEw6).all)) ?_)))))))))
  refine wpF_run 1 [(45, (vI 1))] ?_
  have hK2 := (((((((hBw2.ext hEw3)).ext hEw4)).chg hCw5 (fun hs => by have h : _ = _ := hs; omega))).ext hEw6)
  refine wpF_step (op_store 109 w1.heap.size 0 109 (vA [(vI n), (.slice a1 (hgt n + 1) ca1)]) ([(vI 0), (.slice none 0 0)]) ([(vI n), (.slice a1 (hgt n + 1) ca1)]) hK2 (by kernel_rfl) (by first | decide | (simp; done) | (simp; omega)) (by simp [Value.oneCell']) ?_)
  have hK3 := (((((((hBw2.ext hEw3)).ext hEw4)).chg hCw5 (fun hs => by have h : _ = _ := hs; omega))).ext hEw6)
  intro w7 hBw7 hCw7
  have hzw7 := hCw7.size
  rw [setFrom_all _ _ (by kernel_rfl)] at hBw7
  refine wpF_run 1 [(5, (vI 1))] (wpF_end (then_code (wpC_ret (body_ret2 (show resVal Tryd.prog 46 _ _ (.cell 4 109) (vA [(vI n), (.slice a1 (hgt n + 1) ca1)]) from ⟨⟨w1.heap.size, 0, none⟩, (by kernel_rfl), run_loadVar_agg (T := 109) (vs := [(vI n), (.slice a1 (hgt n + 1) ca1)]) (hBw7).all (by kernel_rfl)⟩) (show resVal Tryd.prog 46 _ _ (.tmp 5) (vI 1) by (show _ = _; kernel_rfl)) ?_))))
  have hX1 : Ext w w7 := (Ext.own ((Ext.own (((hEw1.trans hEw2).trans hEw3).trans hEw4) hCw5 (by omega)).trans hEw6) hCw7 (by omega))
  exact ⟨_, _, _, _, rfl, hX1⟩

theorem c_atB3 (n : Nat) (l : Nat) (j : Int)  (w : World) (hp0 : 1 ≤ n) (hp1 : n ≤ 4096) (hp2 : l ≤ hgt n) (hp3 : j < 0) :
    Calls Tryd.prog 60 #[(vI n), (vA [(vI l), (.int .i64 j)])] w (Ret fun r w' => ∃ (a0 : Int) (a1 : Option Addr) (na1 : Nat) (ca1 : Nat), r = (.tuple #[(vA [(.int .i64 a0), (.slice a1 na1 ca1)]), (vI 1)]) ∧ Ext w w') := by
  refine calls_of (n := 46) (σ := [(0, (vI n)), (1, (vA [(vI l), (.int .i64 j)]))]) Tryd.func60 rfl ?_
  refine wpC_seq (wpC_region (wpF_step (op_new (some 3) (Instr.box 113 (vA [(vI l), (.int .i64 j)])) (vP w.heap.size 0) ([(vI l), (.int .i64 j)]) 113 ?_)))
  intro w1 hBw1 hEw1
  have hzw1 := hEw1.size; have hlw1 := hBw1.lt
  refine wpF_step (op_new (some 4) (Instr.alloc 109 true (.tuple #[])) (vP w1.heap.size 0) ([(vI 0), (.slice none 0 0)]) 109 ?_)
  intro w2 hBw2 hEw2
  have hzw2 := hEw2.size; have hlw2 := hBw2.lt
  refine wpF_run 1 [(5, (vI 0))] (wpF_end (then_code (wpC_seq (wpC_region (wpF_run 1 [(9, (vI n))] (wpF_step (op_call (some 10) (c_of n _ (by omega) (by omega)) ?_)))))))
  rintro _ w3 ⟨a1, ca1, rfl, hFz1_0, hEw3⟩
  have hzw3 := hEw3.size
  have hlea1 := hFz1_0.le
  refine wpF_run 3 [(12, (vI 0)), (11, (vA [(vI n), (.slice a1 (hgt n + 1) ca1)])), (8, (.tuple #[(vA [(vI n), (.slice a1 (hgt n + 1) ca1)]), (vI 0)]))] (wpF_step (op_new (some 6) (Instr.alloc 109 true (.tuple #[])) (vP w3.heap.size 0) ([(vI 0), (.slice none 0 0)]) 109 ?_))
  intro w4 hBw4 hEw4
  have hzw4 := hEw4.size; have hlw4 := hBw4.lt
  refine wpF_step (op_store 109 w3.heap.size 0 109 (vA [(vI n), (.slice a1 (hgt n + 1) ca1)]) ([(vI 0), (.slice none 0 0)]) ([(vI n), (.slice a1 (hgt n + 1) ca1)]) hBw4 (by kernel_rfl) (by first | decide | (simp; done) | (simp; omega)) (by simp [Value.oneCell']) ?_)
  intro w5 hBw5 hCw5
  have hzw5 := hCw5.size
  rw [setFrom_all _ _ (by kernel_rfl)] at hBw5
  refine wpF_run 1 [(7, (vI 0))] (wpF_end (then_code (wpC_seq (wpC_seq (wpC_drawM (Ext w5.drew) 31 [(14, 128, 0), (15, 8192, 1), (16, 16384, 2), (17, 32776, 4), (18, 98304, 12), (19, 163840, 20), (20, 294912, 36), (21, 524296, 64), (22, 1572864, 192), (23, 524352, 64), (24, 4718592, 576), (25, 8912896, 1088), (26, 19398656, 2368), (27, 34111488, 4164), (28, 67141632, 8260), (29, 134217736, 16384), (30, 402653184, 49152), (31, 671088640, 81920), (32, 1207992320, 147460), (33, 2147516416, 278532), (34, 4294967304, 524288), (35, 12884901888, 1572864), (36, 4294967360, 524288), (37, 38654705664, 4718592), (38, 4294967304, 524288), (39, 141733920768, 17301504), (40, 347892350976, 42467328), (41, 554050781184, 67633152), (42, 1120986464256, 136839168), (43, 2203318255616, 268959748), (44, 4398046543872, 536870916)] (fun hT193 => ?_))))))
  have hEw6 : Ext w5 w5.drew := Ext.drew w5
  generalize w5.drew = w6 at hEw6 ⊢
  have hzw6 := hEw6.size
  refine anyM_run hT193 [(0, 13, (vI 0))] 1 1 (anyM_take hT193 1 3 (some 14) vT (yld_b (((0 : Nat) : Int) == ((0 : Nat) : Int)) (cmpEqT (by omega))) (anyM_run hT193 [(2, 15, vT), (3, 16, (vP w.heap.size 0))] 2 15 ?_))
  have hK1 := (((((((((hBw1.ext hEw2)).ext hEw3)).ext hEw4)).chg hCw5 (fun hs => by have h : _ = _ := hs; omega))).ext hEw6)
  refine anyM_take hT193 4 31 (some 17) (vI l) (yld_val (Instr.loadAt 3 (vP w.heap.size 0)) (fun w' hC => rn_ld ((hK1.ext hC).cell rfl))) (anyM_take hT193 5 63 (some 18) vF (yld_b (decide (((l : Nat) : Int) < ((0 : Nat) : Int))) (cmpDF (by omega))) (anyM_run hT193 [(6, 19, vF), (7, 20, (vP w.heap.size 0))] 2 255 (anyM_take hT193 8 511 (some 21) (vI l) (yld_val (Instr.loadAt 3 (vP w.heap.size 0)) (fun w' hC => rn_ld ((hK1.ext hC).cell rfl))) (anyM_run hT193 [(9, 22, (vP w3.heap.size 1))] 1 1023 (anyM_take hT193 10 2047 (some 23) (.slice a1 (hgt n + 1) ca1) (yld_val (Instr.loadAt 107 (vP w3.heap.size 1)) (fun w' hC => rn_ld (((hBw5.ext hEw6).ext hC).cell rfl))) (anyM_run hT193 [(11, 24, (vI (hgt n + 1)))] 1 4095 (anyM_take hT193 12 8191 (some 25) vF (yld_b (decide (((l : Nat) : Int) ≥ ((hgt n + 1 : Nat) : Int))) (cmpDF (by omega))) (anyM_run hT193 [(13, 26, vF), (14, 27, vF), (15, 28, (vP w.heap.size 1))] 3 65535 (anyM_take hT193 16 131071 (some 29) (.int .i64 j) (yld_val (Instr.loadAt 3 (vP w.heap.size 1)) (fun w' hC => rn_ld ((hK1.ext hC).cell rfl))) ?_)))))))))
  refine anyM_take hT193 17 262143 (some 30) vT (yld_b (decide (j < ((0 : Nat) : Int))) (cmpDT (by omega))) (anyM_run hT193 [(18, 31, vT), (19, 32, vT), (20, 33, undef), (21, 34, undef), (22, 35, undef), (23, 36, undef), (24, 37, undef), (25, 38, undef), (26, 39, undef), (27, 40, undef), (28, 41, undef), (29, 42, vT), (30, 43, vT)] 13 2147483647 (anyM_done (then_code (wpC_true (wpC_region (wpF_run 1 [(7, (vI 1))] (wpF_end (then_code (wpC_seq ?_)))))))))
  refine wpC_region (wpF_step (op_v (some 44) (Instr.loadAt 109 (vP w3.heap.size 0)) (vA [(vI n), (.slice a1 (hgt n + 1) ca1)]) (rn_lda (vs := [(vI n), (.slice a1 (hgt n + 1) ca1)]) ((hBw5.ext hEw6).all)) ?_))
  refine wpF_run 1 [(45, (vI 1))] ?_
  have hK2 := (((((((hBw2.ext hEw3)).ext hEw4)).chg hCw5 (fun hs => by have h : _ = _ := hs; omega))).ext hEw6)
  refine wpF_step (op_store 109 w1.heap.size 0 109 (vA [(vI n), (.slice a1 (hgt n + 1) ca1)]) ([(vI 0), (.slice none 0 0)]) ([(vI n), (.slice a1 (hgt n + 1) ca1)]) hK2 (by kernel_rfl) (by first | decide | (simp; done) | (simp; omega)) (by simp [Value.oneCell']) ?_)
  have hK3 := (((((((hBw2.ext hEw3)).ext hEw4)).chg hCw5 (fun hs => by have h : _ = _ := hs; omega))).ext hEw6)
  intro w7 hBw7 hCw7
  have hzw7 := hCw7.size
  rw [setFrom_all _ _ (by kernel_rfl)] at hBw7
  refine wpF_run 1 [(5, (vI 1))] (wpF_end (then_code (wpC_ret (body_ret2 (show resVal Tryd.prog 46 _ _ (.cell 4 109) (vA [(vI n), (.slice a1 (hgt n + 1) ca1)]) from ⟨⟨w1.heap.size, 0, none⟩, (by kernel_rfl), run_loadVar_agg (T := 109) (vs := [(vI n), (.slice a1 (hgt n + 1) ca1)]) (hBw7).all (by kernel_rfl)⟩) (show resVal Tryd.prog 46 _ _ (.tmp 5) (vI 1) by (show _ = _; kernel_rfl)) ?_))))
  have hX1 : Ext w w7 := (Ext.own ((Ext.own (((hEw1.trans hEw2).trans hEw3).trans hEw4) hCw5 (by omega)).trans hEw6) hCw7 (by omega))
  exact ⟨_, _, _, _, rfl, hX1⟩

theorem c_atB4 (n : Nat) (l : Nat) (j : Nat)  (w : World) (hp0 : 1 ≤ n) (hp1 : n ≤ 4096) (hp2 : l ≤ hgt n) (hp3 : cnt n l ≤ j) :
    Calls Tryd.prog 60 #[(vI n), (vA [(vI l), (vI j)])] w (Ret fun r w' => ∃ (a0 : Int) (a1 : Option Addr) (na1 : Nat) (ca1 : Nat), r = (.tuple #[(vA [(.int .i64 a0), (.slice a1 na1 ca1)]), (vI 1)]) ∧ Ext w w') := by
  refine calls_of (n := 46) (σ := [(0, (vI n)), (1, (vA [(vI l), (vI j)]))]) Tryd.func60 rfl ?_
  have h5 := hgt_le n
  refine wpC_seq (wpC_region (wpF_step (op_new (some 3) (Instr.box 113 (vA [(vI l), (vI j)])) (vP w.heap.size 0) ([(vI l), (vI j)]) 113 ?_)))
  intro w1 hBw1 hEw1
  have hzw1 := hEw1.size; have hlw1 := hBw1.lt
  refine wpF_step (op_new (some 4) (Instr.alloc 109 true (.tuple #[])) (vP w1.heap.size 0) ([(vI 0), (.slice none 0 0)]) 109 ?_)
  intro w2 hBw2 hEw2
  have hzw2 := hEw2.size; have hlw2 := hBw2.lt
  refine wpF_run 1 [(5, (vI 0))] (wpF_end (then_code (wpC_seq (wpC_region (wpF_run 1 [(9, (vI n))] (wpF_step (op_call (some 10) (c_of n _ (by omega) (by omega)) ?_)))))))
  rintro _ w3 ⟨a1, ca1, rfl, hFz1_0, hEw3⟩
  have hzw3 := hEw3.size
  have hlea1 := hFz1_0.le
  refine wpF_run 3 [(12, (vI 0)), (11, (vA [(vI n), (.slice a1 (hgt n + 1) ca1)])), (8, (.tuple #[(vA [(vI n), (.slice a1 (hgt n + 1) ca1)]), (vI 0)]))] (wpF_step (op_new (some 6) (Instr.alloc 109 true (.tuple #[])) (vP w3.heap.size 0) ([(vI 0), (.slice none 0 0)]) 109 ?_))
  intro w4 hBw4 hEw4
  have hzw4 := hEw4.size; have hlw4 := hBw4.lt
  refine wpF_step (op_store 109 w3.heap.size 0 109 (vA [(vI n), (.slice a1 (hgt n + 1) ca1)]) ([(vI 0), (.slice none 0 0)]) ([(vI n), (.slice a1 (hgt n + 1) ca1)]) hBw4 (by kernel_rfl) (by first | decide | (simp; done) | (simp; omega)) (by simp [Value.oneCell']) ?_)
  intro w5 hBw5 hCw5
  have hzw5 := hCw5.size
  rw [setFrom_all _ _ (by kernel_rfl)] at hBw5
  refine wpF_run 1 [(7, (vI 0))] (wpF_end (then_code (wpC_seq (wpC_seq (wpC_drawM (Ext w5.drew) 31 [(14, 128, 0), (15, 8192, 1), (16, 16384, 2), (17, 32776, 4), (18, 98304, 12), (19, 163840, 20), (20, 294912, 36), (21, 524296, 64), (22, 1572864, 192), (23, 524352, 64), (24, 4718592, 576), (25, 8912896, 1088), (26, 19398656, 2368), (27, 34111488, 4164), (28, 67141632, 8260), (29, 134217736, 16384), (30, 402653184, 49152), (31, 671088640, 81920), (32, 1207992320, 147460), (33, 2147516416, 278532), (34, 4294967304, 524288), (35, 12884901888, 1572864), (36, 4294967360, 524288), (37, 38654705664, 4718592), (38, 4294967304, 524288), (39, 141733920768, 17301504), (40, 347892350976, 42467328), (41, 554050781184, 67633152), (42, 1120986464256, 136839168), (43, 2203318255616, 268959748), (44, 4398046543872, 536870916)] (fun hT234 => ?_))))))
  have hEw6 : Ext w5 w5.drew := Ext.drew w5
  generalize w5.drew = w6 at hEw6 ⊢
  have hzw6 := hEw6.size
  refine anyM_run hT234 [(0, 13, (vI 0))] 1 1 (anyM_take hT234 1 3 (some 14) vT (yld_b (((0 : Nat) : Int) == ((0 : Nat) : Int)) (cmpEqT (by omega))) (anyM_run hT234 [(2, 15, vT), (3, 16, (vP w.heap.size 0))] 2 15 ?_))
  have hK1 := (((((((((hBw1.ext hEw2)).ext hEw3)).ext hEw4)).chg hCw5 (fun hs => by have h : _ = _ := hs; omega))).ext hEw6)
  refine anyM_take hT234 4 31 (some 17) (vI l) (yld_val (Instr.loadAt 3 (vP w.heap.size 0)) (fun w' hC => rn_ld ((hK1.ext hC).cell rfl))) (anyM_take hT234 5 63 (some 18) vF (yld_b (decide (((l : Nat) : Int) < ((0 : Nat) : Int))) (cmpDF (by omega))) (anyM_run hT234 [(6, 19, vF), (7, 20, (vP w.heap.size 0))] 2 255 (anyM_take hT234 8 511 (some 21) (vI l) (yld_val (Instr.loadAt 3 (vP w.heap.size 0)) (fun w' hC => rn_ld ((hK1.ext hC).cell rfl))) (anyM_run hT234 [(9, 22, (vP w3.heap.size 1))] 1 1023 (anyM_take hT234 10 2047 (some 23) (.slice a1 (hgt n + 1) ca1) (yld_val (Instr.loadAt 107 (vP w3.heap.size 1)) (fun w' hC => rn_ld (((hBw5.ext hEw6).ext hC).cell rfl))) (anyM_run hT234 [(11, 24, (vI (hgt n + 1)))] 1 4095 (anyM_take hT234 12 8191 (some 25) vF (yld_b (decide (((l : Nat) : Int) ≥ ((hgt n + 1 : Nat) : Int))) (cmpDF (by omega))) (anyM_run hT234 [(13, 26, vF), (14, 27, vF), (15, 28, (vP w.heap.size 1))] 3 65535 (anyM_take hT234 16 131071 (some 29) (vI j) (yld_val (Instr.loadAt 3 (vP w.heap.size 1)) (fun w' hC => rn_ld ((hK1.ext hC).cell rfl))) ?_)))))))))
  refine anyM_take hT234 17 262143 (some 30) vF (yld_b (decide (((j : Nat) : Int) < ((0 : Nat) : Int))) (cmpDF (by omega))) (anyM_run hT234 [(18, 31, vF), (19, 32, vF), (20, 33, (vP w.heap.size 1))] 3 2097151 (anyM_take hT234 21 4194303 (some 34) (vI j) (yld_val (Instr.loadAt 3 (vP w.heap.size 1)) (fun w' hC => rn_ld ((hK1.ext hC).cell rfl))) (anyM_run hT234 [(22, 35, (vP w3.heap.size 1))] 1 8388607 (anyM_take hT234 23 16777215 (some 36) (.slice a1 (hgt n + 1) ca1) (yld_val (Instr.loadAt 107 (vP w3.heap.size 1)) (fun w' hC => rn_ld (((hBw5.ext hEw6).ext hC).cell rfl))) (anyM_run hT234 [(24, 37, (vP w.heap.size 0))] 1 33554431 (anyM_take hT234 25 67108863 (some 38) (vI l) (yld_val (Instr.loadAt 3 (vP w.heap.size 0)) (fun w' hC => rn_ld ((hK1.ext hC).cell rfl))) ?_))))))
  obtain ⟨b1, o1, rfl⟩ := hFz1_0.addr (by omega)
  refine anyM_take hT234 26 134217727 (some 39) (vP b1 (o1 + l * 1)) (yld_val (Instr.indexAt 107 (.slice (pA b1 o1) (hgt n + 1) ca1) (vI l)) (fun w' hC => rn_ixs (E := 3) (sz := 1) (by omega))) ?_
  have hK2 := (((((hFz1_0.ext hEw4)).chg hCw5 (fun k h1 h2 hs => by have h : k = _ := hs; omega))).ext hEw6)
  refine anyM_take hT234 27 268435455 (some 40) (vI (gt (cts n) l)) (yld_val (Instr.loadAt 3 (vP b1 (o1 + l * 1))) (fun w' hC => rn_ld ((hK2.ext hC).celln (by omega)))) (anyM_take hT234 28 536870911 (some 41) vT (yld_b (decide (((j : Nat) : Int) ≥ ((gt (cts n) l : Nat) : Int))) (cmpDT (by rw [gt_cts hp2]; omega))) (anyM_run hT234 [(29, 42, vT), (30, 43, vT)] 2 2147483647 (anyM_done (then_code (wpC_true (wpC_region (wpF_run 1 [(7, (vI 1))] (wpF_end (then_code ?_)))))))))
  refine wpC_seq (wpC_region (wpF_step (op_v (some 44) (Instr.loadAt 109 (vP w3.heap.size 0)) (vA [(vI n), (.slice (pA b1 o1) (hgt n + 1) ca1)]) (rn_lda (vs := [(vI n), (.slice (pA b1 o1) (hgt n + 1) ca1)]) ((hBw5.ext hEw6).all)) ?_)))
  refine wpF_run 1 [(45, (vI 1))] ?_
  have hK3 := (((((((hBw2.ext hEw3)).ext hEw4)).chg hCw5 (fun hs => by have h : _ = _ := hs; omega))).ext hEw6)
  refine wpF_step (op_store 109 w1.heap.size 0 109 (vA [(vI n), (.slice (pA b1 o1) (hgt n + 1) ca1)]) ([(vI 0), (.slice none 0 0)]) ([(vI n), (.slice (pA b1 o1) (hgt n + 1) ca1)]) hK3 (by kernel_rfl) (by first | decide | (simp; done) | (simp; omega)) (by simp [Value.oneCell']) ?_)
  have hK4 := (((((((hBw2.ext hEw3)).ext hEw4)).chg hCw5 (fun hs => by have h : _ = _ := hs; omega))).ext hEw6)
  intro w7 hBw7 hCw7
  have hzw7 := hCw7.size
  rw [setFrom_all _ _ (by kernel_rfl)] at hBw7
  refine wpF_run 1 [(5, (vI 1))] (wpF_end (then_code (wpC_ret (body_ret2 (show resVal Tryd.prog 46 _ _ (.cell 4 109) (vA [(vI n), (.slice (pA b1 o1) (hgt n + 1) ca1)]) from ⟨⟨w1.heap.size, 0, none⟩, (by kernel_rfl), run_loadVar_agg (T := 109) (vs := [(vI n), (.slice (pA b1 o1) (hgt n + 1) ca1)]) (hBw7).all (by kernel_rfl)⟩) (show resVal Tryd.prog 46 _ _ (.tmp 5) (vI 1) by (show _ = _; kernel_rfl)) ?_))))
  have hX1 : Ext w w7 := (Ext.own ((Ext.own (((hEw1.trans hEw2).trans hEw3).trans hEw4) hCw5 (by omega)).trans hEw6) hCw7 (by omega))
  exact ⟨_, _, _, _, rfl, hX1⟩

theorem c_atBad (n : Int) (l : Int) (j : Int)  (w : World) (hp0 : ¬ ((1 ≤ n ∧ n ≤ 4096) ∧ (0 ≤ l ∧ l ≤ hgt n.toNat) ∧ (0 ≤ j ∧ j < cnt n.toNat l.toNat))) :
    Calls Tryd.prog 60 #[(.int .i64 n), (vA [(.int .i64 l), (.int .i64 j)])] w (Ret fun r w' => ∃ (a0 : Int) (a1 : Option Addr) (na1 : Nat) (ca1 : Nat), r = (.tuple #[(vA [(.int .i64 a0), (.slice a1 na1 ca1)]), (vI 1)]) ∧ Ext w w') := by
  by_cases h : 1 ≤ n ∧ n ≤ 4096
  · obtain ⟨m, rfl⟩ := Int.eq_ofNat_of_zero_le (show 0 ≤ n by omega)
    rw [Int.toNat_natCast] at hp0
    by_cases hl : l < 0
    · exact c_atB1 m l j w (by omega) (by omega) hl
    · obtain ⟨k, rfl⟩ := Int.eq_ofNat_of_zero_le (show 0 ≤ l by omega)
      rw [Int.toNat_natCast] at hp0
      by_cases hk : (hgt m : Int) < k
      · exact c_atB2 m k j w (by omega) (by omega) hk
      · by_cases hj : j < 0
        · exact c_atB3 m k j w (by omega) (by omega) (by omega) hj
        · obtain ⟨i, rfl⟩ := Int.eq_ofNat_of_zero_le (show 0 ≤ j by omega)
          exact c_atB4 m k i w (by omega) (by omega) (by omega) (by omega)
  · exact c_atB0 n l j w h

theorem c_under (n : Nat) {lo_c hi_c : Nat} {a_c : Option Addr} {n_c c_c : Nat} (l : Nat)  (w : World) (h_c : Es (nv .i64) lo_c hi_c w a_c n_c c_c (cts n)) (hp0 : l ≤ hgt n + 1) :
    Calls Tryd.prog 61 #[(vA [(vI n), (.slice a_c n_c c_c)]), (vI l)] w (Ret fun r w' => r = (vI (und n l)) ∧ Ext w w') := by
  refine calls_of (n := 15) (σ := [(0, (vA [(vI n), (.slice a_c n_c c_c)])), (1, (vI l))]) Tryd.func61 rfl ?_
  replace h_c := h_c.now; have hle_c := h_c.le
  have hcl := h_c.len_eq
  rw [cts_length] at hcl
  have h5 := hgt_le n
  refine wpC_seq (wpC_region (wpF_step (op_new (some 2) (Instr.box 109 (vA [(vI n), (.slice a_c n_c c_c)])) (vP w.heap.size 0) ([(vI n), (.slice a_c n_c c_c)]) 109 ?_)))
  intro w1 hBw1 hEw1
  have hzw1 := hEw1.size; have hlw1 := hBw1.lt
  refine wpF_run 1 [(4, (vI 0))] (wpF_end (then_code (wpC_seq (wpC_seq (wpC_region (wpF_run 1 [(5, (vI l))] (wpF_step (op_split (some 6) ((((l : Nat) : Int) == ((0 : Nat) : Int))) (fun hc6 => ?_) (fun hc6 => ?_)))))))))
  · replace hc6 : l = 0 := by have := of_eq_t hc6; omega
    refine wpF_end (then_code (wpC_true (wpC_seq (wpC_region (wpF_run 1 [(7, (vP w.heap.size 0))] (wpF_step (op_v (some 8) (Instr.loadAt 3 (vP w.heap.size 0)) (vI n) (rn_ld (hBw1.cell rfl)) ?_)))))))
    exact wpF_run 1 [(4, (vI n))] (wpF_end (then_code (wpC_ret (then_ret (body_rets (vI n) (⟨by subst hc6; rfl, hEw1⟩))))))
  · replace hc6 : ¬ (l = 0) := by have := of_eq_f hc6; omega
    refine wpF_end (then_code (wpC_false (wpC_skip (then_code (wpC_seq (wpC_region (wpF_run 1 [(9, (vP w.heap.size 1))] (wpF_step (op_v (some 10) (Instr.loadAt 107 (vP w.heap.size 1)) (.slice a_c n_c c_c) (rn_ld (hBw1.cell rfl)) ?_)))))))))
    refine wpF_run 1 [(11, (vI l))] (wpF_step (op_in (some 12) .i64 (IntKind.i64.wrap (((l : Nat) : Int) - ((1 : Nat) : Int))) (l - 1) (wrapS (by omega) (by omega) (by omega)) ?_))
    obtain ⟨b1, o1, rfl⟩ := h_c.addr (by omega)
    refine wpF_step (op_v (some 13) (Instr.indexAt 107 (.slice (pA b1 o1) n_c c_c) (vI (l - 1))) (vP b1 (o1 + (l - 1) * 1)) (rn_ixs (E := 3) (sz := 1) (by omega)) ?_)
    refine wpF_step (op_v (some 14) (Instr.loadAt 3 (vP b1 (o1 + (l - 1) * 1))) (vI (gt (cts n) (l - 1))) (rn_ld ((h_c.ext hEw1).celln (by omega))) ?_)
    exact wpF_run 1 [(4, (vI (gt (cts n) (l - 1))))] (wpF_end (then_code (wpC_ret (body_rets (vI (gt (cts n) (l - 1))) (⟨by rw [gt_cts_pred hc6 hp0], hEw1⟩)))))

theorem c_Parts (n : Nat) (l : Nat) (j : Nat)  (w : World) (hp0 : 1 ≤ n) (hp1 : n ≤ 4096) (hp2 : l ≤ hgt n) (hp3 : j < cnt n l) :
    Calls Tryd.prog 45 #[(vI n), (vI l), (vI j)] w (Ret fun r w' => r = (.tuple #[(vI (prt n l j)), (vI 0)]) ∧ Ext w w') := by
  refine calls_of (n := 28) (σ := [(0, (vI n)), (1, (vI l)), (2, (vI j))]) Tryd.func45 rfl ?_
  have h5 := hgt_le n
  have hcn := cnt_n n l
  have hun := und_n n l
  have hlc := lt_cnt.1 hp3
  refine wpC_seq (wpC_region (wpF_run 2 [(7, (vI 0)), (6, (vI 0))] (wpF_end (then_code (wpC_seq (wpC_region (wpF_run 4 [(14, (vA [(vI l), (vI j)])), (13, (vI j)), (12, (vI l)), (11, (vI n))] (wpF_step (op_call (some 15) (c_at n l j _ (by omega) (by omega) (by omega) (by omega)) ?_)))))))))
  rintro _ w1 ⟨a1, ca1, rfl, hFz1_0, hEw1⟩
  have hzw1 := hEw1.size
  have hlea1 := hFz1_0.le
  refine wpF_run 3 [(17, (vI 0)), (16, (vA [(vI n), (.slice a1 (hgt n + 1) ca1)])), (10, (.tuple #[(vA [(vI n), (.slice a1 (hgt n + 1) ca1)]), (vI 0)]))] (wpF_step (op_new (some 8) (Instr.alloc 109 true (.tuple #[])) (vP w1.heap.size 0) ([(vI 0), (.slice none 0 0)]) 109 ?_))
  intro w2 hBw2 hEw2
  have hzw2 := hEw2.size; have hlw2 := hBw2.lt
  refine wpF_step (op_store 109 w1.heap.size 0 109 (vA [(vI n), (.slice a1 (hgt n + 1) ca1)]) ([(vI 0), (.slice none 0 0)]) ([(vI n), (.slice a1 (hgt n + 1) ca1)]) hBw2 (by kernel_rfl) (by first | decide | (simp; done) | (simp; omega)) (by simp [Value.oneCell']) ?_)
  intro w3 hBw3 hCw3
  have hzw3 := hCw3.size
  rw [setFrom_all _ _ (by kernel_rfl)] at hBw3
  refine wpF_run 1 [(9, (vI 0))] (wpF_end (then_code (wpC_seq (wpC_seq (wpC_region (wpF_run 2 [(19, vF), (18, (vI 0))] (wpF_end (then_code (wpC_false ?_)))))))))
  refine wpC_skip (then_code (wpC_seq (wpC_region (wpF_step (op_v (some 21) (Instr.loadAt 109 (vP w1.heap.size 0)) (vA [(vI n), (.slice a1 (hgt n + 1) ca1)]) (rn_lda (vs := [(vI n), (.slice a1 (hgt n + 1) ca1)]) (hBw3.all)) ?_)))))
  refine wpF_run 1 [(22, (vI l))] (wpF_step (op_call (some 23) (c_under n l _ (((hFz1_0.ext hEw2)).chg hCw3 (fun k h1 h2 hs => by have h : k = _ := hs; omega)) (by omega)) ?_))
  rintro _ w4 ⟨rfl, hEw4⟩
  have hzw4 := hEw4.size
  refine wpF_run 1 [(24, (vI j))] (wpF_step (op_in (some 25) .i64 (IntKind.i64.wrap (((4 : Nat) : Int) * ((j : Nat) : Int))) (4 * j) (wrapS (by omega) (by omega) (by omega)) ?_))
  refine wpF_step (op_in (some 26) .i64 (IntKind.i64.wrap (((und n l : Nat) : Int) - ((4 * j : Nat) : Int))) (und n l - 4 * j) (wrapS (by omega) (by omega) (by omega)) ?_)
  refine wpF_step (op_eqv (some 27) (.int .i64 (if ((und n l - 4 * j : Nat) : Int) < ((4 : Nat) : Int) then ((und n l - 4 * j : Nat) : Int) else ((4 : Nat) : Int))) (vI (min 4 (und n l - 4 * j))) (congrArg _ (minN _ _)) ?_)
  refine wpF_run 2 [(7, (vI 0)), (6, (vI (min 4 (und n l - 4 * j))))] (wpF_end (then_code (wpC_ret (body_rets (.tuple #[(vI (min 4 (und n l - 4 * j))), (vI 0)]) ?_))))
  have hX1 : Ext w w4 := ((Ext.own (hEw1.trans hEw2) hCw3 (by omega)).trans hEw4)
  exact ⟨rfl, hX1⟩

theorem c_PartsBad (n : Int) (l : Int) (j : Int)  (w : World) (hp0 : ¬ ((1 ≤ n ∧ n ≤ 4096) ∧ (0 ≤ l ∧ l ≤ hgt n.toNat) ∧ (0 ≤ j ∧ j < cnt n.toNat l.toNat))) :
    Calls Tryd.prog 45 #[(.int .i64 n), (.int .i64 l), (.int .i64 j)] w (Ret fun r w' => r = (.tuple #[(vI 0), (vI 1)]) ∧ Ext w w') := by
  refine calls_of (n := 28) (σ := [(0, (.int .i64 n)), (1, (.int .i64 l)), (2, (.int .i64 j))]) Tryd.func45 rfl ?_
  refine wpC_seq (wpC_region (wpF_run 2 [(7, (vI 0)), (6, (vI 0))] (wpF_end (then_code (wpC_seq (wpC_region (wpF_run 4 [(14, (vA [(.int .i64 l), (.int .i64 j)])), (13, (.int .i64 j)), (12, (.int .i64 l)), (11, (.int .i64 n))] (wpF_step (op_call (some 15) (c_atBad n l j _ (by omega)) ?_)))))))))
  rintro _ w1 ⟨a1, a2, na2, ca2, rfl, hEw1⟩
  have hzw1 := hEw1.size
  refine wpF_run 3 [(17, (vI 1)), (16, (vA [(.int .i64 a1), (.slice a2 na2 ca2)])), (10, (.tuple #[(vA [(.int .i64 a1), (.slice a2 na2 ca2)]), (vI 1)]))] (wpF_step (op_new (some 8) (Instr.alloc 109 true (.tuple #[])) (vP w1.heap.size 0) ([(vI 0), (.slice none 0 0)]) 109 ?_))
  intro w2 hBw2 hEw2
  have hzw2 := hEw2.size; have hlw2 := hBw2.lt
  refine wpF_step (op_store 109 w1.heap.size 0 109 (vA [(.int .i64 a1), (.slice a2 na2 ca2)]) ([(vI 0), (.slice none 0 0)]) ([(.int .i64 a1), (.slice a2 na2 ca2)]) hBw2 (by kernel_rfl) (by first | decide | (simp; done) | (simp; omega)) (by simp [Value.oneCell']) ?_)
  intro w3 hBw3 hCw3
  have hzw3 := hCw3.size
  rw [setFrom_all _ _ (by kernel_rfl)] at hBw3
  refine wpF_run 1 [(9, (vI 1))] (wpF_end (then_code (wpC_seq (wpC_seq (wpC_region (wpF_run 2 [(19, vT), (18, (vI 1))] (wpF_end (then_code (wpC_true ?_)))))))))
  exact wpC_seq (wpC_region (wpF_run 3 [(7, (vI 1)), (6, (vI 0)), (20, (vI 1))] (wpF_end (then_code (wpC_ret (then_ret (body_rets (.tuple #[(vI 0), (vI 1)]) (⟨rfl, (Ext.own (hEw1.trans hEw2) hCw3 (by omega))⟩))))))))

end Go.Proofs.YtpcbhalagllhnaaDoor
