/- CsS3: what each function does, by its own code. No condition beyond those of each statement. -/
import Derived.Test.YtpcbhalagllhnaaCsS2
namespace Go.Proofs.Ytpcbhalagllhnaa
open Go Go.RowKit Go.Cs
set_option maxRecDepth 100000
set_option linter.all false
set_option linter.unusedVariables false

theorem c_ParentTop (n : Nat) (l : Nat) (j : Nat)  (w : World) (hp0 : 1 ≤ n) (hp1 : n ≤ 4096) (hp2 : l ≤ hgt n) (hp3 : j < cnt n l) (hp4 : l = hgt n) :
    Calls Try.prog 30 #[(vI n), (vA [(vI l), (vI j)])] w (Ret fun r w' => r = (.tuple #[(vA [(vI 0), (vI 0)]), (vI 0), (vI 11)]) ∧ Ext w w') := by
  refine calls_of (n := 38) (σ := [(0, (vI n)), (1, (vA [(vI l), (vI j)]))]) Try.func30 rfl ?_
  have h5 := hgt_le n
  have hcn := cnt_n n l
  have hun := und_n n l
  have hlc := lt_cnt.1 hp3
  refine wpC_seq (wpC_region (wpF_step (op_new (some 3) (Instr.box 45 (vA [(vI l), (vI j)])) (vP w.heap.size 0) ([(vI l), (vI j)]) 45 ?_)))
  intro w1 hBw1 hEw1
  have hzw1 := hEw1.size; have hlw1 := hBw1.lt
  refine wpF_step (op_new (some 4) (Instr.alloc 45 true (.tuple #[])) (vP w1.heap.size 0) ([(vI 0), (vI 0)]) 45 ?_)
  intro w2 hBw2 hEw2
  have hzw2 := hEw2.size; have hlw2 := hBw2.lt
  refine wpF_run 2 [(6, (vI 0)), (5, (vI 0))] (wpF_end (then_code (wpC_seq (wpC_region (wpF_run 1 [(9, (vI n))] (wpF_step (op_v (some 10) (Instr.loadAt 45 (vP w.heap.size 0)) (vA [(vI l), (vI j)]) (rn_lda (vs := [(vI l), (vI j)]) ((hBw1.ext hEw2).all)) ?_)))))))
  refine wpF_step (op_call (some 11) (c_at n l j _ (by omega) (by omega) (by omega) (by omega)) ?_)
  rintro _ w3 ⟨a1, ca1, rfl, hFz1_0, hEw3⟩
  have hzw3 := hEw3.size
  have hlea1 := hFz1_0.le
  refine wpF_run 3 [(13, (vI 0)), (12, (vA [(vI n), (.slice a1 (hgt n + 1) ca1)])), (8, (.tuple #[(vA [(vI n), (.slice a1 (hgt n + 1) ca1)]), (vI 0)]))] (wpF_step (op_new (some 7) (Instr.alloc 62 true (.tuple #[])) (vP w3.heap.size 0) ([(vI 0), (.slice none 0 0)]) 62 ?_))
  intro w4 hBw4 hEw4
  have hzw4 := hEw4.size; have hlw4 := hBw4.lt
  refine wpF_step (op_store 62 w3.heap.size 0 62 (vA [(vI n), (.slice a1 (hgt n + 1) ca1)]) ([(vI 0), (.slice none 0 0)]) ([(vI n), (.slice a1 (hgt n + 1) ca1)]) hBw4 (by kernel_rfl) (by first | decide | (simp; done) | (simp; omega)) (by simp [Value.oneCell']) ?_)
  intro w5 hBw5 hCw5
  have hzw5 := hCw5.size
  rw [setFrom_all _ _ (by kernel_rfl)] at hBw5
  refine wpF_run 1 [(6, (vI 0))] (wpF_end (then_code (wpC_seq (wpC_block (wpC_seq (wpC_region (wpF_run 3 [(14, vF), (16, vF), (15, (vI 0))] (wpF_end (then_code ?_)))))))))
  refine wpC_false (wpC_seq (wpC_region (wpF_run 1 [(20, (vP w.heap.size 0))] ?_)))
  have hK1 := (((((((hBw1.ext hEw2)).ext hEw3)).ext hEw4)).chg hCw5 (fun hs => by have h : _ = _ := hs; omega))
  refine wpF_step (op_v (some 21) (Instr.loadAt 3 (vP w.heap.size 0)) (vI l) (rn_ld (hK1.cell rfl)) ?_)
  refine wpF_run 1 [(22, (vP w3.heap.size 1))] (wpF_step (op_v (some 23) (Instr.loadAt 60 (vP w3.heap.size 1)) (.slice a1 (hgt n + 1) ca1) (rn_ld (hBw5.cell rfl)) ?_))
  refine wpF_run 1 [(24, (vI (hgt n + 1)))] (wpF_step (op_in (some 25) .i64 (IntKind.i64.wrap (((hgt n + 1 : Nat) : Int) - ((1 : Nat) : Int))) (hgt n) (wrapS (by omega) (by omega) (by omega)) ?_))
  refine wpF_step (op_b (some 26) (((l : Nat) : Int) == ((hgt n : Nat) : Int)) true (cmpEqT (by omega)) ?_)
  refine wpF_run 1 [(19, vT)] (wpF_end (then_code (wpC_true (wpC_seq (wpC_region (wpF_run 1 [(27, (vA [(vI 0), (vI 0)]))] ?_))))))
  have hK2 := (((((hBw2.ext hEw3)).ext hEw4)).chg hCw5 (fun hs => by have h : _ = _ := hs; omega))
  refine wpF_step (op_store 45 w1.heap.size 0 45 (vA [(vI 0), (vI 0)]) ([(vI 0), (vI 0)]) ([(vI 0), (vI 0)]) hK2 (by kernel_rfl) (by first | decide | (simp; done) | (simp; omega)) (by simp [Value.oneCell']) ?_)
  have hK3 := (((((hBw2.ext hEw3)).ext hEw4)).chg hCw5 (fun hs => by have h : _ = _ := hs; omega))
  intro w6 hBw6 hCw6
  have hzw6 := hCw6.size
  rw [setFrom_all _ _ (by kernel_rfl)] at hBw6
  refine wpF_run 2 [(6, (vI 11)), (5, (vI 0))] (wpF_end (then_code (wpC_ret (inBlock_ret (then_ret (body_ret3 (show resVal Try.prog 38 _ _ (.cell 4 45) (vA [(vI 0), (vI 0)]) from ⟨⟨w1.heap.size, 0, none⟩, (by kernel_rfl), run_loadVar_agg (T := 45) (vs := [(vI 0), (vI 0)]) (hBw6).all (by kernel_rfl)⟩) (show resVal Try.prog 38 _ _ (.tmp 5) (vI 0) by (show _ = _; kernel_rfl)) (show resVal Try.prog 38 _ _ (.tmp 6) (vI 11) by (show _ = _; kernel_rfl)) ?_))))))
  have hX1 : Ext w w6 := (Ext.own (Ext.own (((hEw1.trans hEw2).trans hEw3).trans hEw4) hCw5 (by omega)) hCw6 (by omega))
  exact ⟨rfl, hX1⟩

theorem c_Parent (n : Nat) (l : Nat) (j : Nat)  (w : World) (hp0 : 1 ≤ n) (hp1 : n ≤ 4096) (hp2 : l ≤ hgt n) (hp3 : j < cnt n l) (hp4 : l < hgt n) :
    Calls Try.prog 30 #[(vI n), (vA [(vI l), (vI j)])] w (Ret fun r w' => r = (.tuple #[(vA [(vI (l + 1)), (vI (j / 4))]), (vI (j % 4)), (vI 0)]) ∧ Ext w w') := by
  refine calls_of (n := 38) (σ := [(0, (vI n)), (1, (vA [(vI l), (vI j)]))]) Try.func30 rfl ?_
  have h5 := hgt_le n
  have hcn := cnt_n n l
  have hun := und_n n l
  have hlc := lt_cnt.1 hp3
  refine wpC_seq (wpC_region (wpF_step (op_new (some 3) (Instr.box 45 (vA [(vI l), (vI j)])) (vP w.heap.size 0) ([(vI l), (vI j)]) 45 ?_)))
  intro w1 hBw1 hEw1
  have hzw1 := hEw1.size; have hlw1 := hBw1.lt
  refine wpF_step (op_new (some 4) (Instr.alloc 45 true (.tuple #[])) (vP w1.heap.size 0) ([(vI 0), (vI 0)]) 45 ?_)
  intro w2 hBw2 hEw2
  have hzw2 := hEw2.size; have hlw2 := hBw2.lt
  refine wpF_run 2 [(6, (vI 0)), (5, (vI 0))] (wpF_end (then_code (wpC_seq (wpC_region (wpF_run 1 [(9, (vI n))] (wpF_step (op_v (some 10) (Instr.loadAt 45 (vP w.heap.size 0)) (vA [(vI l), (vI j)]) (rn_lda (vs := [(vI l), (vI j)]) ((hBw1.ext hEw2).all)) ?_)))))))
  refine wpF_step (op_call (some 11) (c_at n l j _ (by omega) (by omega) (by omega) (by omega)) ?_)
  rintro _ w3 ⟨a1, ca1, rfl, hFz1_0, hEw3⟩
  have hzw3 := hEw3.size
  have hlea1 := hFz1_0.le
  refine wpF_run 3 [(13, (vI 0)), (12, (vA [(vI n), (.slice a1 (hgt n + 1) ca1)])), (8, (.tuple #[(vA [(vI n), (.slice a1 (hgt n + 1) ca1)]), (vI 0)]))] (wpF_step (op_new (some 7) (Instr.alloc 62 true (.tuple #[])) (vP w3.heap.size 0) ([(vI 0), (.slice none 0 0)]) 62 ?_))
  intro w4 hBw4 hEw4
  have hzw4 := hEw4.size; have hlw4 := hBw4.lt
  refine wpF_step (op_store 62 w3.heap.size 0 62 (vA [(vI n), (.slice a1 (hgt n + 1) ca1)]) ([(vI 0), (.slice none 0 0)]) ([(vI n), (.slice a1 (hgt n + 1) ca1)]) hBw4 (by kernel_rfl) (by first | decide | (simp; done) | (simp; omega)) (by simp [Value.oneCell']) ?_)
  intro w5 hBw5 hCw5
  have hzw5 := hCw5.size
  rw [setFrom_all _ _ (by kernel_rfl)] at hBw5
  refine wpF_run 1 [(6, (vI 0))] (wpF_end (then_code (wpC_seq (wpC_block (wpC_seq (wpC_region (wpF_run 3 [(14, vF), (16, vF), (15, (vI 0))] (wpF_end (then_code ?_)))))))))
  refine wpC_false (wpC_seq (wpC_region (wpF_run 1 [(20, (vP w.heap.size 0))] ?_)))
  have hK1 := (((((((hBw1.ext hEw2)).ext hEw3)).ext hEw4)).chg hCw5 (fun hs => by have h : _ = _ := hs; omega))
  refine wpF_step (op_v (some 21) (Instr.loadAt 3 (vP w.heap.size 0)) (vI l) (rn_ld (hK1.cell rfl)) ?_)
  refine wpF_run 1 [(22, (vP w3.heap.size 1))] (wpF_step (op_v (some 23) (Instr.loadAt 60 (vP w3.heap.size 1)) (.slice a1 (hgt n + 1) ca1) (rn_ld (hBw5.cell rfl)) ?_))
  refine wpF_run 1 [(24, (vI (hgt n + 1)))] (wpF_step (op_in (some 25) .i64 (IntKind.i64.wrap (((hgt n + 1 : Nat) : Int) - ((1 : Nat) : Int))) (hgt n) (wrapS (by omega) (by omega) (by omega)) ?_))
  refine wpF_step (op_b (some 26) (((l : Nat) : Int) == ((hgt n : Nat) : Int)) false (cmpEqF (by omega)) ?_)
  refine wpF_run 1 [(19, vF)] (wpF_end (then_code (wpC_false (wpC_skip (inBlock_normal (then_code (wpC_seq (wpC_drawM (Chg (fun k => k = w1.heap.size) w5.drew) 13 [(29, 8, 0), (30, 268435456, 1), (31, 536870912, 2), (32, 8, 0), (33, 2147483648, 8), (34, 4294967296, 16), (35, 9663676416, 36), (36, 8, 0), (37, 34359738368, 128), (38, 68719476736, 256), (0, 17179869200, 127), (6, 137438953472, 2047), (7, 0, 4095)] (fun hT106 => ?_)))))))))
  have hEw6 : Ext w5 w5.drew := Ext.drew w5
  generalize w5.drew = w6 at hEw6 ⊢
  have hzw6 := hEw6.size
  refine anyM_run (hw := show Chg (fun k => k = w1.heap.size) w6 w6 from (Chg.refl (fun k => k = w1.heap.size) w6)) hT106 [(0, 28, (vP w.heap.size 0))] 1 1 (anyM_take (hw := show Chg (fun k => k = w1.heap.size) w6 w6 from (Chg.refl (fun k => k = w1.heap.size) w6)) hT106 1 3 (some 29) (vI l) (yld_val (Instr.loadAt 3 (vP w.heap.size 0)) (fun w' hC => rn_ld (((hK1.ext hEw6).chg hC (fun hs => by have h : _ = _ := hs; omega)).cell rfl))) (anyM_take (hw := show Chg (fun k => k = w1.heap.size) w6 w6 from (Chg.refl (fun k => k = w1.heap.size) w6)) hT106 2 7 (some 30) (vI (l + 1)) (yld_in .i64 (IntKind.i64.wrap (((l : Nat) : Int) + ((1 : Nat) : Int))) (wrapS (by omega) (by omega) (by omega))) (anyM_run (hw := show Chg (fun k => k = w1.heap.size) w6 w6 from (Chg.refl (fun k => k = w1.heap.size) w6)) hT106 [(3, 31, (vP w.heap.size 1))] 1 15 (anyM_take (hw := show Chg (fun k => k = w1.heap.size) w6 w6 from (Chg.refl (fun k => k = w1.heap.size) w6)) hT106 4 31 (some 32) (vI j) (yld_val (Instr.loadAt 3 (vP w.heap.size 1)) (fun w' hC => rn_ld (((hK1.ext hEw6).chg hC (fun hs => by have h : _ = _ := hs; omega)).cell rfl))) (anyM_take (hw := show Chg (fun k => k = w1.heap.size) w6 w6 from (Chg.refl (fun k => k = w1.heap.size) w6)) hT106 5 63 (some 33) (vI (j / 4)) (yld_in .i64 (IntKind.i64.wrap (((j : Nat) : Int).tdiv ((4 : Nat) : Int))) (wrapS (tdivN _ _) (by omega) (by omega))) (anyM_run (hw := show Chg (fun k => k = w1.heap.size) w6 w6 from (Chg.refl (fun k => k = w1.heap.size) w6)) hT106 [(6, 34, (vA [(vI (l + 1)), (vI (j / 4))])), (7, 35, (vP w.heap.size 1))] 2 255 ?_))))))
  refine anyM_take (hw := show Chg (fun k => k = w1.heap.size) w6 w6 from (Chg.refl (fun k => k = w1.heap.size) w6)) hT106 8 511 (some 36) (vI j) (yld_val (Instr.loadAt 3 (vP w.heap.size 1)) (fun w' hC => rn_ld (((hK1.ext hEw6).chg hC (fun hs => by have h : _ = _ := hs; omega)).cell rfl))) (anyM_take (hw := show Chg (fun k => k = w1.heap.size) w6 w6 from (Chg.refl (fun k => k = w1.heap.size) w6)) hT106 9 1023 (some 37) (vI (j % 4)) (yld_in .i64 (((j : Nat) : Int).tmod ((4 : Nat) : Int)) (tmodN _ _)) ?_)
  have hK2 := (((((((hBw2.ext hEw3)).ext hEw4)).chg hCw5 (fun hs => by have h : _ = _ := hs; omega))).ext hEw6)
  refine anyM_one 10 2047 (op_store 45 w1.heap.size 0 45 (vA [(vI (l + 1)), (vI (j / 4))]) ([(vI 0), (vI 0)]) ([(vI (l + 1)), (vI (j / 4))]) hK2 (by kernel_rfl) (by first | decide | (simp; done) | (simp; omega)) (by simp [Value.oneCell']) ?_)
  have hK3 := (((((((hBw2.ext hEw3)).ext hEw4)).chg hCw5 (fun hs => by have h : _ = _ := hs; omega))).ext hEw6)
  intro w7 hBw7 hCw7
  have hzw7 := hCw7.size
  rw [setFrom_all _ _ (by kernel_rfl)] at hBw7
  refine ⟨.inr (Chg.then (Chg.refl (fun k => k = w1.heap.size) w6) hCw7 (fun k hk hs => by have h : k = _ := hs; first | exact hs | (exfalso; omega))), ?_⟩
  refine anyM_run (hw := show Chg (fun k => k = w1.heap.size) w6 w7 from (Chg.then (Chg.refl (fun k => k = w1.heap.size) w6) hCw7 (fun k hk hs => by have h : k = _ := hs; first | exact hs | (exfalso; omega)))) hT106 [(11, 5, (vI (j % 4))), (12, 6, (vI 0))] 2 8191 (anyM_done (then_code (wpC_ret (body_ret3 (show resVal Try.prog 38 _ _ (.cell 4 45) (vA [(vI (l + 1)), (vI (j / 4))]) from ⟨⟨w1.heap.size, 0, none⟩, (by kernel_rfl), run_loadVar_agg (T := 45) (vs := [(vI (l + 1)), (vI (j / 4))]) (hBw7).all (by kernel_rfl)⟩) (show resVal Try.prog 38 _ _ (.tmp 5) (vI (j % 4)) by (show _ = _; kernel_rfl)) (show resVal Try.prog 38 _ _ (.tmp 6) (vI 0) by (show _ = _; kernel_rfl)) ?_))))
  have hX1 : Ext w w7 := (Ext.own ((Ext.own (((hEw1.trans hEw2).trans hEw3).trans hEw4) hCw5 (by omega)).trans hEw6) hCw7 (by omega))
  exact ⟨rfl, hX1⟩

theorem c_ParentBad (n : Int) (l : Int) (j : Int)  (w : World) (hp0 : ¬ ((1 ≤ n ∧ n ≤ 4096) ∧ (0 ≤ l ∧ l ≤ hgt n.toNat) ∧ (0 ≤ j ∧ j < cnt n.toNat l.toNat))) :
    Calls Try.prog 30 #[(.int .i64 n), (vA [(.int .i64 l), (.int .i64 j)])] w (Ret fun r w' => r = (.tuple #[(vA [(vI 0), (vI 0)]), (vI 0), (vI 1)]) ∧ Ext w w') := by
  refine calls_of (n := 38) (σ := [(0, (.int .i64 n)), (1, (vA [(.int .i64 l), (.int .i64 j)]))]) Try.func30 rfl ?_
  refine wpC_seq (wpC_region (wpF_step (op_new (some 3) (Instr.box 45 (vA [(.int .i64 l), (.int .i64 j)])) (vP w.heap.size 0) ([(.int .i64 l), (.int .i64 j)]) 45 ?_)))
  intro w1 hBw1 hEw1
  have hzw1 := hEw1.size; have hlw1 := hBw1.lt
  refine wpF_step (op_new (some 4) (Instr.alloc 45 true (.tuple #[])) (vP w1.heap.size 0) ([(vI 0), (vI 0)]) 45 ?_)
  intro w2 hBw2 hEw2
  have hzw2 := hEw2.size; have hlw2 := hBw2.lt
  refine wpF_run 2 [(6, (vI 0)), (5, (vI 0))] (wpF_end (then_code (wpC_seq (wpC_region (wpF_run 1 [(9, (.int .i64 n))] (wpF_step (op_v (some 10) (Instr.loadAt 45 (vP w.heap.size 0)) (vA [(.int .i64 l), (.int .i64 j)]) (rn_lda (vs := [(.int .i64 l), (.int .i64 j)]) ((hBw1.ext hEw2).all)) ?_)))))))
  refine wpF_step (op_call (some 11) (c_atBad n l j _ (by omega)) ?_)
  rintro _ w3 ⟨a1, a2, na2, ca2, rfl, hEw3⟩
  have hzw3 := hEw3.size
  refine wpF_run 3 [(13, (vI 1)), (12, (vA [(.int .i64 a1), (.slice a2 na2 ca2)])), (8, (.tuple #[(vA [(.int .i64 a1), (.slice a2 na2 ca2)]), (vI 1)]))] (wpF_step (op_new (some 7) (Instr.alloc 62 true (.tuple #[])) (vP w3.heap.size 0) ([(vI 0), (.slice none 0 0)]) 62 ?_))
  intro w4 hBw4 hEw4
  have hzw4 := hEw4.size; have hlw4 := hBw4.lt
  refine wpF_step (op_store 62 w3.heap.size 0 62 (vA [(.int .i64 a1), (.slice a2 na2 ca2)]) ([(vI 0), (.slice none 0 0)]) ([(.int .i64 a1), (.slice a2 na2 ca2)]) hBw4 (by kernel_rfl) (by first | decide | (simp; done) | (simp; omega)) (by simp [Value.oneCell']) ?_)
  intro w5 hBw5 hCw5
  have hzw5 := hCw5.size
  rw [setFrom_all _ _ (by kernel_rfl)] at hBw5
  refine wpF_run 1 [(6, (vI 1))] (wpF_end (then_code (wpC_seq (wpC_block (wpC_seq (wpC_region (wpF_run 3 [(14, vT), (16, vT), (15, (vI 1))] (wpF_end (then_code ?_)))))))))
  refine wpC_true (wpC_seq (wpC_region (wpF_run 2 [(18, (vI 1)), (17, (vA [(vI 0), (vI 0)]))] ?_)))
  have hK1 := (((((hBw2.ext hEw3)).ext hEw4)).chg hCw5 (fun hs => by have h : _ = _ := hs; omega))
  refine wpF_step (op_store 45 w1.heap.size 0 45 (vA [(vI 0), (vI 0)]) ([(vI 0), (vI 0)]) ([(vI 0), (vI 0)]) hK1 (by kernel_rfl) (by first | decide | (simp; done) | (simp; omega)) (by simp [Value.oneCell']) ?_)
  have hK2 := (((((hBw2.ext hEw3)).ext hEw4)).chg hCw5 (fun hs => by have h : _ = _ := hs; omega))
  intro w6 hBw6 hCw6
  have hzw6 := hCw6.size
  rw [setFrom_all _ _ (by kernel_rfl)] at hBw6
  refine wpF_run 2 [(6, (vI 1)), (5, (vI 0))] (wpF_end (then_code (wpC_ret (inBlock_ret (then_ret (body_ret3 (show resVal Try.prog 38 _ _ (.cell 4 45) (vA [(vI 0), (vI 0)]) from ⟨⟨w1.heap.size, 0, none⟩, (by kernel_rfl), run_loadVar_agg (T := 45) (vs := [(vI 0), (vI 0)]) (hBw6).all (by kernel_rfl)⟩) (show resVal Try.prog 38 _ _ (.tmp 5) (vI 0) by (show _ = _; kernel_rfl)) (show resVal Try.prog 38 _ _ (.tmp 6) (vI 1) by (show _ = _; kernel_rfl)) ?_))))))
  have hX1 : Ext w w6 := (Ext.own (Ext.own (((hEw1.trans hEw2).trans hEw3).trans hEw4) hCw5 (by omega)) hCw6 (by omega))
  exact ⟨rfl, hX1⟩

theorem c_ChildBad (n : Int) (l : Int) (j : Int) (w_ : Int)  (w : World) (hp0 : ¬ ((1 ≤ n ∧ n ≤ 4096) ∧ (0 ≤ l ∧ l ≤ hgt n.toNat) ∧ (0 ≤ j ∧ j < cnt n.toNat l.toNat))) :
    Calls Try.prog 29 #[(.int .i64 n), (vA [(.int .i64 l), (.int .i64 j)]), (.int .i64 w_)] w (Ret fun r w' => r = (.tuple #[(vA [(vI 0), (vI 0)]), (vI 1)]) ∧ Ext w w') := by
  refine calls_of (n := 58) (σ := [(0, (.int .i64 n)), (1, (vA [(.int .i64 l), (.int .i64 j)])), (2, (.int .i64 w_))]) Try.func29 rfl ?_
  refine wpC_seq (wpC_region (wpF_step (op_new (some 4) (Instr.box 45 (vA [(.int .i64 l), (.int .i64 j)])) (vP w.heap.size 0) ([(.int .i64 l), (.int .i64 j)]) 45 ?_)))
  intro w1 hBw1 hEw1
  have hzw1 := hEw1.size; have hlw1 := hBw1.lt
  refine wpF_step (op_new (some 6) (Instr.alloc 45 true (.tuple #[])) (vP w1.heap.size 0) ([(vI 0), (vI 0)]) 45 ?_)
  intro w2 hBw2 hEw2
  have hzw2 := hEw2.size; have hlw2 := hBw2.lt
  refine wpF_run 1 [(7, (vI 0))] (wpF_end (then_code (wpC_seq (wpC_region (wpF_run 1 [(11, (.int .i64 n))] (wpF_step (op_v (some 12) (Instr.loadAt 45 (vP w.heap.size 0)) (vA [(.int .i64 l), (.int .i64 j)]) (rn_lda (vs := [(.int .i64 l), (.int .i64 j)]) ((hBw1.ext hEw2).all)) ?_)))))))
  refine wpF_step (op_call (some 13) (c_atBad n l j _ (by omega)) ?_)
  rintro _ w3 ⟨a1, a2, na2, ca2, rfl, hEw3⟩
  have hzw3 := hEw3.size
  refine wpF_run 3 [(15, (vI 1)), (14, (vA [(.int .i64 a1), (.slice a2 na2 ca2)])), (10, (.tuple #[(vA [(.int .i64 a1), (.slice a2 na2 ca2)]), (vI 1)]))] (wpF_step (op_new (some 8) (Instr.alloc 62 true (.tuple #[])) (vP w3.heap.size 0) ([(vI 0), (.slice none 0 0)]) 62 ?_))
  intro w4 hBw4 hEw4
  have hzw4 := hEw4.size; have hlw4 := hBw4.lt
  refine wpF_step (op_store 62 w3.heap.size 0 62 (vA [(.int .i64 a1), (.slice a2 na2 ca2)]) ([(vI 0), (.slice none 0 0)]) ([(.int .i64 a1), (.slice a2 na2 ca2)]) hBw4 (by kernel_rfl) (by first | decide | (simp; done) | (simp; omega)) (by simp [Value.oneCell']) ?_)
  intro w5 hBw5 hCw5
  have hzw5 := hCw5.size
  rw [setFrom_all _ _ (by kernel_rfl)] at hBw5
  refine wpF_run 1 [(9, (vI 1))] (wpF_end (then_code (wpC_seq (wpC_block (wpC_seq (wpC_region (wpF_run 3 [(16, vT), (18, vT), (17, (vI 1))] (wpF_end (then_code ?_)))))))))
  refine wpC_true (wpC_seq (wpC_region (wpF_run 2 [(20, (vI 1)), (19, (vA [(vI 0), (vI 0)]))] ?_)))
  have hK1 := (((((hBw2.ext hEw3)).ext hEw4)).chg hCw5 (fun hs => by have h : _ = _ := hs; omega))
  refine wpF_step (op_store 45 w1.heap.size 0 45 (vA [(vI 0), (vI 0)]) ([(vI 0), (vI 0)]) ([(vI 0), (vI 0)]) hK1 (by kernel_rfl) (by first | decide | (simp; done) | (simp; omega)) (by simp [Value.oneCell']) ?_)
  have hK2 := (((((hBw2.ext hEw3)).ext hEw4)).chg hCw5 (fun hs => by have h : _ = _ := hs; omega))
  intro w6 hBw6 hCw6
  have hzw6 := hCw6.size
  rw [setFrom_all _ _ (by kernel_rfl)] at hBw6
  refine wpF_run 1 [(7, (vI 1))] (wpF_end (then_code (wpC_ret (inBlock_ret (then_ret (body_ret2 (show resVal Try.prog 58 _ _ (.cell 6 45) (vA [(vI 0), (vI 0)]) from ⟨⟨w1.heap.size, 0, none⟩, (by kernel_rfl), run_loadVar_agg (T := 45) (vs := [(vI 0), (vI 0)]) (hBw6).all (by kernel_rfl)⟩) (show resVal Try.prog 58 _ _ (.tmp 7) (vI 1) by (show _ = _; kernel_rfl)) ?_))))))
  have hX1 : Ext w w6 := (Ext.own (Ext.own (((hEw1.trans hEw2).trans hEw3).trans hEw4) hCw5 (by omega)) hCw6 (by omega))
  exact ⟨rfl, hX1⟩

theorem c_ChildW1 (n : Nat) (l : Nat) (j : Nat) (w_ : Int)  (w : World) (hp0 : 1 ≤ n) (hp1 : n ≤ 4096) (hp2 : l ≤ hgt n) (hp3 : j < cnt n l) (hp4 : w_ < 0) :
    Calls Try.prog 29 #[(vI n), (vA [(vI l), (vI j)]), (.int .i64 w_)] w (Ret fun r w' => r = (.tuple #[(vA [(vI 0), (vI 0)]), (vI 1)]) ∧ Ext w w') := by
  refine calls_of (n := 58) (σ := [(0, (vI n)), (1, (vA [(vI l), (vI j)])), (2, (.int .i64 w_))]) Try.func29 rfl ?_
  have h5 := hgt_le n
  have hcn := cnt_n n l
  have hun := und_n n l
  have hlc := lt_cnt.1 hp3
  refine wpC_seq (wpC_region (wpF_step (op_new (some 4) (Instr.box 45 (vA [(vI l), (vI j)])) (vP w.heap.size 0) ([(vI l), (vI j)]) 45 ?_)))
  intro w1 hBw1 hEw1
  have hzw1 := hEw1.size; have hlw1 := hBw1.lt
  refine wpF_step (op_new (some 6) (Instr.alloc 45 true (.tuple #[])) (vP w1.heap.size 0) ([(vI 0), (vI 0)]) 45 ?_)
  intro w2 hBw2 hEw2
  have hzw2 := hEw2.size; have hlw2 := hBw2.lt
  refine wpF_run 1 [(7, (vI 0))] (wpF_end (then_code (wpC_seq (wpC_region (wpF_run 1 [(11, (vI n))] (wpF_step (op_v (some 12) (Instr.loadAt 45 (vP w.heap.size 0)) (vA [(vI l), (vI j)]) (rn_lda (vs := [(vI l), (vI j)]) ((hBw1.ext hEw2).all)) ?_)))))))
  refine wpF_step (op_call (some 13) (c_at n l j _ (by omega) (by omega) (by omega) (by omega)) ?_)
  rintro _ w3 ⟨a1, ca1, rfl, hFz1_0, hEw3⟩
  have hzw3 := hEw3.size
  have hlea1 := hFz1_0.le
  refine wpF_run 3 [(15, (vI 0)), (14, (vA [(vI n), (.slice a1 (hgt n + 1) ca1)])), (10, (.tuple #[(vA [(vI n), (.slice a1 (hgt n + 1) ca1)]), (vI 0)]))] (wpF_step (op_new (some 8) (Instr.alloc 62 true (.tuple #[])) (vP w3.heap.size 0) ([(vI 0), (.slice none 0 0)]) 62 ?_))
  intro w4 hBw4 hEw4
  have hzw4 := hEw4.size; have hlw4 := hBw4.lt
  refine wpF_step (op_store 62 w3.heap.size 0 62 (vA [(vI n), (.slice a1 (hgt n + 1) ca1)]) ([(vI 0), (.slice none 0 0)]) ([(vI n), (.slice a1 (hgt n + 1) ca1)]) hBw4 (by kernel_rfl) (by first | decide | (simp; done) | (simp; omega)) (by simp [Value.oneCell']) ?_)
  intro w5 hBw5 hCw5
  have hzw5 := hCw5.size
  rw [setFrom_all _ _ (by kernel_rfl)] at hBw5
  refine wpF_run 1 [(9, (vI 0))] (wpF_end (then_code (wpC_seq (wpC_block (wpC_seq (wpC_region (wpF_run 3 [(16, vF), (18, vF), (17, (vI 0))] (wpF_end (then_code ?_)))))))))
  refine wpC_false (wpC_seq (wpC_region (wpF_run 1 [(22, (.int .i64 w_))] (wpF_step (op_b (some 23) (decide (w_ < ((0 : Nat) : Int))) true (cmpDT (by omega)) ?_)))))
  refine wpF_run 5 [(21, vT), (27, vT), (26, undef), (25, undef), (24, vT)] (wpF_end (then_code (wpC_true (wpC_seq (wpC_region (wpF_run 1 [(28, (vA [(vI 0), (vI 0)]))] ?_))))))
  have hK1 := (((((hBw2.ext hEw3)).ext hEw4)).chg hCw5 (fun hs => by have h : _ = _ := hs; omega))
  refine wpF_step (op_store 45 w1.heap.size 0 45 (vA [(vI 0), (vI 0)]) ([(vI 0), (vI 0)]) ([(vI 0), (vI 0)]) hK1 (by kernel_rfl) (by first | decide | (simp; done) | (simp; omega)) (by simp [Value.oneCell']) ?_)
  have hK2 := (((((hBw2.ext hEw3)).ext hEw4)).chg hCw5 (fun hs => by have h : _ = _ := hs; omega))
  intro w6 hBw6 hCw6
  have hzw6 := hCw6.size
  rw [setFrom_all _ _ (by kernel_rfl)] at hBw6
  refine wpF_run 1 [(7, (vI 1))] (wpF_end (then_code (wpC_ret (inBlock_ret (then_ret (body_ret2 (show resVal Try.prog 58 _ _ (.cell 6 45) (vA [(vI 0), (vI 0)]) from ⟨⟨w1.heap.size, 0, none⟩, (by kernel_rfl), run_loadVar_agg (T := 45) (vs := [(vI 0), (vI 0)]) (hBw6).all (by kernel_rfl)⟩) (show resVal Try.prog 58 _ _ (.tmp 7) (vI 1) by (show _ = _; kernel_rfl)) ?_))))))
  have hX1 : Ext w w6 := (Ext.own (Ext.own (((hEw1.trans hEw2).trans hEw3).trans hEw4) hCw5 (by omega)) hCw6 (by omega))
  exact ⟨rfl, hX1⟩

theorem c_ChildW2 (n : Nat) (l : Nat) (j : Nat) (w_ : Int)  (w : World) (hp0 : 1 ≤ n) (hp1 : n ≤ 4096) (hp2 : l ≤ hgt n) (hp3 : j < cnt n l) (hp4 : w_ > 3) :
    Calls Try.prog 29 #[(vI n), (vA [(vI l), (vI j)]), (.int .i64 w_)] w (Ret fun r w' => r = (.tuple #[(vA [(vI 0), (vI 0)]), (vI 1)]) ∧ Ext w w') := by
  refine calls_of (n := 58) (σ := [(0, (vI n)), (1, (vA [(vI l), (vI j)])), (2, (.int .i64 w_))]) Try.func29 rfl ?_
  have h5 := hgt_le n
  have hcn := cnt_n n l
  have hun := und_n n l
  have hlc := lt_cnt.1 hp3
  refine wpC_seq (wpC_region (wpF_step (op_new (some 4) (Instr.box 45 (vA [(vI l), (vI j)])) (vP w.heap.size 0) ([(vI l), (vI j)]) 45 ?_)))
  intro w1 hBw1 hEw1
  have hzw1 := hEw1.size; have hlw1 := hBw1.lt
  refine wpF_step (op_new (some 6) (Instr.alloc 45 true (.tuple #[])) (vP w1.heap.size 0) ([(vI 0), (vI 0)]) 45 ?_)
  intro w2 hBw2 hEw2
  have hzw2 := hEw2.size; have hlw2 := hBw2.lt
  refine wpF_run 1 [(7, (vI 0))] (wpF_end (then_code (wpC_seq (wpC_region (wpF_run 1 [(11, (vI n))] (wpF_step (op_v (some 12) (Instr.loadAt 45 (vP w.heap.size 0)) (vA [(vI l), (vI j)]) (rn_lda (vs := [(vI l), (vI j)]) ((hBw1.ext hEw2).all)) ?_)))))))
  refine wpF_step (op_call (some 13) (c_at n l j _ (by omega) (by omega) (by omega) (by omega)) ?_)
  rintro _ w3 ⟨a1, ca1, rfl, hFz1_0, hEw3⟩
  have hzw3 := hEw3.size
  have hlea1 := hFz1_0.le
  refine wpF_run 3 [(15, (vI 0)), (14, (vA [(vI n), (.slice a1 (hgt n + 1) ca1)])), (10, (.tuple #[(vA [(vI n), (.slice a1 (hgt n + 1) ca1)]), (vI 0)]))] (wpF_step (op_new (some 8) (Instr.alloc 62 true (.tuple #[])) (vP w3.heap.size 0) ([(vI 0), (.slice none 0 0)]) 62 ?_))
  intro w4 hBw4 hEw4
  have hzw4 := hEw4.size; have hlw4 := hBw4.lt
  refine wpF_step (op_store 62 w3.heap.size 0 62 (vA [(vI n), (.slice a1 (hgt n + 1) ca1)]) ([(vI 0), (.slice none 0 0)]) ([(vI n), (.slice a1 (hgt n + 1) ca1)]) hBw4 (by kernel_rfl) (by first | decide | (simp; done) | (simp; omega)) (by simp [Value.oneCell']) ?_)
  intro w5 hBw5 hCw5
  have hzw5 := hCw5.size
  rw [setFrom_all _ _ (by kernel_rfl)] at hBw5
  refine wpF_run 1 [(9, (vI 0))] (wpF_end (then_code (wpC_seq (wpC_block (wpC_seq (wpC_region (wpF_run 3 [(16, vF), (18, vF), (17, (vI 0))] (wpF_end (then_code ?_)))))))))
  refine wpC_false (wpC_seq (wpC_region (wpF_run 1 [(22, (.int .i64 w_))] (wpF_step (op_b (some 23) (decide (w_ < ((0 : Nat) : Int))) false (cmpDF (by omega)) ?_)))))
  refine wpF_run 2 [(25, (.int .i64 w_)), (24, vF)] (wpF_step (op_b (some 26) (decide (w_ ≥ ((4 : Nat) : Int))) true (cmpDT (by omega)) ?_))
  refine wpF_run 2 [(21, vT), (27, vT)] (wpF_end (then_code (wpC_true (wpC_seq (wpC_region (wpF_run 1 [(28, (vA [(vI 0), (vI 0)]))] ?_))))))
  have hK1 := (((((hBw2.ext hEw3)).ext hEw4)).chg hCw5 (fun hs => by have h : _ = _ := hs; omega))
  refine wpF_step (op_store 45 w1.heap.size 0 45 (vA [(vI 0), (vI 0)]) ([(vI 0), (vI 0)]) ([(vI 0), (vI 0)]) hK1 (by kernel_rfl) (by first | decide | (simp; done) | (simp; omega)) (by simp [Value.oneCell']) ?_)
  have hK2 := (((((hBw2.ext hEw3)).ext hEw4)).chg hCw5 (fun hs => by have h : _ = _ := hs; omega))
  intro w6 hBw6 hCw6
  have hzw6 := hCw6.size
  rw [setFrom_all _ _ (by kernel_rfl)] at hBw6
  refine wpF_run 1 [(7, (vI 1))] (wpF_end (then_code (wpC_ret (inBlock_ret (then_ret (body_ret2 (show resVal Try.prog 58 _ _ (.cell 6 45) (vA [(vI 0), (vI 0)]) from ⟨⟨w1.heap.size, 0, none⟩, (by kernel_rfl), run_loadVar_agg (T := 45) (vs := [(vI 0), (vI 0)]) (hBw6).all (by kernel_rfl)⟩) (show resVal Try.prog 58 _ _ (.tmp 7) (vI 1) by (show _ = _; kernel_rfl)) ?_))))))
  have hX1 : Ext w w6 := (Ext.own (Ext.own (((hEw1.trans hEw2).trans hEw3).trans hEw4) hCw5 (by omega)) hCw6 (by omega))
  exact ⟨rfl, hX1⟩

theorem c_ChildLeaf (n : Nat) (l : Nat) (j : Nat) (w_ : Nat)  (w : World) (hp0 : 1 ≤ n) (hp1 : n ≤ 4096) (hp2 : l ≤ hgt n) (hp3 : j < cnt n l) (hp4 : w_ < 4) (hp5 : l = 0) :
    Calls Try.prog 29 #[(vI n), (vA [(vI l), (vI j)]), (vI w_)] w (Ret fun r w' => r = (.tuple #[(vA [(vI 0), (vI 0)]), (vI 11)]) ∧ Ext w w') := by
  refine calls_of (n := 58) (σ := [(0, (vI n)), (1, (vA [(vI l), (vI j)])), (2, (vI w_))]) Try.func29 rfl ?_
  have h5 := hgt_le n
  have hcn := cnt_n n l
  have hun := und_n n l
  have hlc := lt_cnt.1 hp3
  refine wpC_seq (wpC_region (wpF_step (op_new (some 4) (Instr.box 45 (vA [(vI l), (vI j)])) (vP w.heap.size 0) ([(vI l), (vI j)]) 45 ?_)))
  intro w1 hBw1 hEw1
  have hzw1 := hEw1.size; have hlw1 := hBw1.lt
  refine wpF_step (op_new (some 6) (Instr.alloc 45 true (.tuple #[])) (vP w1.heap.size 0) ([(vI 0), (vI 0)]) 45 ?_)
  intro w2 hBw2 hEw2
  have hzw2 := hEw2.size; have hlw2 := hBw2.lt
  refine wpF_run 1 [(7, (vI 0))] (wpF_end (then_code (wpC_seq (wpC_region (wpF_run 1 [(11, (vI n))] (wpF_step (op_v (some 12) (Instr.loadAt 45 (vP w.heap.size 0)) (vA [(vI l), (vI j)]) (rn_lda (vs := [(vI l), (vI j)]) ((hBw1.ext hEw2).all)) ?_)))))))
  refine wpF_step (op_call (some 13) (c_at n l j _ (by omega) (by omega) (by omega) (by omega)) ?_)
  rintro _ w3 ⟨a1, ca1, rfl, hFz1_0, hEw3⟩
  have hzw3 := hEw3.size
  have hlea1 := hFz1_0.le
  refine wpF_run 3 [(15, (vI 0)), (14, (vA [(vI n), (.slice a1 (hgt n + 1) ca1)])), (10, (.tuple #[(vA [(vI n), (.slice a1 (hgt n + 1) ca1)]), (vI 0)]))] (wpF_step (op_new (some 8) (Instr.alloc 62 true (.tuple #[])) (vP w3.heap.size 0) ([(vI 0), (.slice none 0 0)]) 62 ?_))
  intro w4 hBw4 hEw4
  have hzw4 := hEw4.size; have hlw4 := hBw4.lt
  refine wpF_step (op_store 62 w3.heap.size 0 62 (vA [(vI n), (.slice a1 (hgt n + 1) ca1)]) ([(vI 0), (.slice none 0 0)]) ([(vI n), (.slice a1 (hgt n + 1) ca1)]) hBw4 (by kernel_rfl) (by first | decide | (simp; done) | (simp; omega)) (by simp [Value.oneCell']) ?_)
  intro w5 hBw5 hCw5
  have hzw5 := hCw5.size
  rw [setFrom_all _ _ (by kernel_rfl)] at hBw5
  refine wpF_run 1 [(9, (vI 0))] (wpF_end (then_code (wpC_seq (wpC_block (wpC_seq (wpC_region (wpF_run 3 [(16, vF), (18, vF), (17, (vI 0))] (wpF_end (then_code ?_)))))))))
  refine wpC_false (wpC_seq (wpC_region (wpF_run 1 [(22, (vI w_))] (wpF_step (op_b (some 23) (decide (((w_ : Nat) : Int) < ((0 : Nat) : Int))) false (cmpDF (by omega)) ?_)))))
  refine wpF_run 2 [(25, (vI w_)), (24, vF)] (wpF_step (op_b (some 26) (decide (((w_ : Nat) : Int) ≥ ((4 : Nat) : Int))) false (cmpDF (by omega)) ?_))
  refine wpF_run 2 [(21, vF), (27, vF)] (wpF_end (then_code (wpC_false (wpC_seq (wpC_drawM (Ext w5.drew) 19 [(31, 16, 0), (32, 1073741824, 1), (33, 2147483648, 2), (34, 4294967296, 4), (35, 8589934608, 8), (36, 25769803776, 24), (37, 42949672960, 40), (38, 8589934596, 8), (39, 214748364800, 200), (40, 8589934848, 8), (41, 558345748480, 520), (42, 8589934608, 8), (43, 2207613190144, 2056), (44, 4406636445696, 4104), (45, 9904194584576, 9224), (46, 17600775979008, 16392), (47, 35467839930368, 33032), (48, 70377334112256, 65544), (30, 140737488355328, 131080)] (fun hT289 => ?_))))))
  have hEw6 : Ext w5 w5.drew := Ext.drew w5
  generalize w5.drew = w6 at hEw6 ⊢
  have hzw6 := hEw6.size
  refine anyM_run hT289 [(0, 30, (vP w.heap.size 0))] 1 1 ?_
  have hK1 := (((((((((hBw1.ext hEw2)).ext hEw3)).ext hEw4)).chg hCw5 (fun hs => by have h : _ = _ := hs; omega))).ext hEw6)
  refine anyM_take hT289 1 3 (some 31) (vI l) (yld_val (Instr.loadAt 3 (vP w.heap.size 0)) (fun w' hC => rn_ld ((hK1.ext hC).cell rfl))) (anyM_take hT289 2 7 (some 32) vT (yld_b (((l : Nat) : Int) == ((0 : Nat) : Int)) (cmpEqT (by omega))) (anyM_run hT289 [(3, 33, vT), (4, 34, undef), (5, 35, undef), (6, 36, undef), (7, 37, undef), (8, 38, undef), (9, 39, undef), (10, 40, undef), (11, 41, undef), (12, 42, undef), (13, 43, undef), (14, 44, undef), (15, 45, undef), (16, 46, undef), (17, 47, vT), (18, 29, vT)] 16 524287 (anyM_done (then_code (wpC_true (wpC_seq (wpC_region (wpF_run 1 [(48, (vA [(vI 0), (vI 0)]))] ?_))))))))
  have hK2 := (((((((hBw2.ext hEw3)).ext hEw4)).chg hCw5 (fun hs => by have h : _ = _ := hs; omega))).ext hEw6)
  refine wpF_step (op_store 45 w1.heap.size 0 45 (vA [(vI 0), (vI 0)]) ([(vI 0), (vI 0)]) ([(vI 0), (vI 0)]) hK2 (by kernel_rfl) (by first | decide | (simp; done) | (simp; omega)) (by simp [Value.oneCell']) ?_)
  have hK3 := (((((((hBw2.ext hEw3)).ext hEw4)).chg hCw5 (fun hs => by have h : _ = _ := hs; omega))).ext hEw6)
  intro w7 hBw7 hCw7
  have hzw7 := hCw7.size
  rw [setFrom_all _ _ (by kernel_rfl)] at hBw7
  refine wpF_run 1 [(7, (vI 11))] (wpF_end (then_code (wpC_ret (inBlock_ret (then_ret (body_ret2 (show resVal Try.prog 58 _ _ (.cell 6 45) (vA [(vI 0), (vI 0)]) from ⟨⟨w1.heap.size, 0, none⟩, (by kernel_rfl), run_loadVar_agg (T := 45) (vs := [(vI 0), (vI 0)]) (hBw7).all (by kernel_rfl)⟩) (show resVal Try.prog 58 _ _ (.tmp 7) (vI 11) by (show _ = _; kernel_rfl)) ?_))))))
  have hX1 : Ext w w7 := (Ext.own ((Ext.own (((hEw1.trans hEw2).trans hEw3).trans hEw4) hCw5 (by omega)).trans hEw6) hCw7 (by omega))
  exact ⟨rfl, hX1⟩

theorem c_ChildNone (n : Nat) (l : Nat) (j : Nat) (w_ : Nat)  (w : World) (hp0 : 1 ≤ n) (hp1 : n ≤ 4096) (hp2 : l ≤ hgt n) (hp3 : j < cnt n l) (hp4 : w_ < 4) (hp5 : l ≠ 0) (hp6 : und n l ≤ 4 * j + w_) :
    Calls Try.prog 29 #[(vI n), (vA [(vI l), (vI j)]), (vI w_)] w (Ret fun r w' => r = (.tuple #[(vA [(vI 0), (vI 0)]), (vI 11)]) ∧ Ext w w') := by
  refine calls_of (n := 58) (σ := [(0, (vI n)), (1, (vA [(vI l), (vI j)])), (2, (vI w_))]) Try.func29 rfl ?_
  have h5 := hgt_le n
  have hcn := cnt_n n l
  have hun := und_n n l
  have hlc := lt_cnt.1 hp3
  refine wpC_seq (wpC_region (wpF_step (op_new (some 4) (Instr.box 45 (vA [(vI l), (vI j)])) (vP w.heap.size 0) ([(vI l), (vI j)]) 45 ?_)))
  intro w1 hBw1 hEw1
  have hzw1 := hEw1.size; have hlw1 := hBw1.lt
  refine wpF_step (op_new (some 6) (Instr.alloc 45 true (.tuple #[])) (vP w1.heap.size 0) ([(vI 0), (vI 0)]) 45 ?_)
  intro w2 hBw2 hEw2
  have hzw2 := hEw2.size; have hlw2 := hBw2.lt
  refine wpF_run 1 [(7, (vI 0))] (wpF_end (then_code (wpC_seq (wpC_region (wpF_run 1 [(11, (vI n))] (wpF_step (op_v (some 12) (Instr.loadAt 45 (vP w.heap.size 0)) (vA [(vI l), (vI j)]) (rn_lda (vs := [(vI l), (vI j)]) ((hBw1.ext hEw2).all)) ?_)))))))
  refine wpF_step (op_call (some 13) (c_at n l j _ (by omega) (by omega) (by omega) (by omega)) ?_)
  rintro _ w3 ⟨a1, ca1, rfl, hFz1_0, hEw3⟩
  have hzw3 := hEw3.size
  have hlea1 := hFz1_0.le
  refine wpF_run 3 [(15, (vI 0)), (14, (vA [(vI n), (.slice a1 (hgt n + 1) ca1)])), (10, (.tuple #[(vA [(vI n), (.slice a1 (hgt n + 1) ca1)]), (vI 0)]))] (wpF_step (op_new (some 8) (Instr.alloc 62 true (.tuple #[])) (vP w3.heap.size 0) ([(vI 0), (.slice none 0 0)]) 62 ?_))
  intro w4 hBw4 hEw4
  have hzw4 := hEw4.size; have hlw4 := hBw4.lt
  refine wpF_step (op_store 62 w3.heap.size 0 62 (vA [(vI n), (.slice a1 (hgt n + 1) ca1)]) ([(vI 0), (.slice none 0 0)]) ([(vI n), (.slice a1 (hgt n + 1) ca1)]) hBw4 (by kernel_rfl) (by first | decide | (simp; done) | (simp; omega)) (by simp [Value.oneCell']) ?_)
  intro w5 hBw5 hCw5
  have hzw5 := hCw5.size
  rw [setFrom_all _ _ (by kernel_rfl)] at hBw5
  refine wpF_run 1 [(9, (vI 0))] (wpF_end (then_code (wpC_seq (wpC_block (wpC_seq (wpC_region (wpF_run 3 [(16, vF), (18, vF), (17, (vI 0))] (wpF_end (then_code ?_)))))))))
  refine wpC_false (wpC_seq (wpC_region (wpF_run 1 [(22, (vI w_))] (wpF_step (op_b (some 23) (decide (((w_ : Nat) : Int) < ((0 : Nat) : Int))) false (cmpDF (by omega)) ?_)))))
  refine wpF_run 2 [(25, (vI w_)), (24, vF)] (wpF_step (op_b (some 26) (decide (((w_ : Nat) : Int) ≥ ((4 : Nat) : Int))) false (cmpDF (by omega)) ?_))
  refine wpF_run 2 [(21, vF), (27, vF)] (wpF_end (then_code (wpC_false (wpC_seq (wpC_drawM (Ext w5.drew) 19 [(31, 16, 0), (32, 1073741824, 1), (33, 2147483648, 2), (34, 4294967296, 4), (35, 8589934608, 8), (36, 25769803776, 24), (37, 42949672960, 40), (38, 8589934596, 8), (39, 214748364800, 200), (40, 8589934848, 8), (41, 558345748480, 520), (42, 8589934608, 8), (43, 2207613190144, 2056), (44, 4406636445696, 4104), (45, 9904194584576, 9224), (46, 17600775979008, 16392), (47, 35467839930368, 33032), (48, 70377334112256, 65544), (30, 140737488355328, 131080)] (fun hT334 => ?_))))))
  have hEw6 : Ext w5 w5.drew := Ext.drew w5
  generalize w5.drew = w6 at hEw6 ⊢
  have hzw6 := hEw6.size
  refine anyM_run hT334 [(0, 30, (vP w.heap.size 0))] 1 1 ?_
  have hK1 := (((((((((hBw1.ext hEw2)).ext hEw3)).ext hEw4)).chg hCw5 (fun hs => by have h : _ = _ := hs; omega))).ext hEw6)
  refine anyM_take hT334 1 3 (some 31) (vI l) (yld_val (Instr.loadAt 3 (vP w.heap.size 0)) (fun w' hC => rn_ld ((hK1.ext hC).cell rfl))) (anyM_take hT334 2 7 (some 32) vF (yld_b (((l : Nat) : Int) == ((0 : Nat) : Int)) (cmpEqF (by omega))) (anyM_run hT334 [(3, 33, vF), (4, 34, (vP w.heap.size 1))] 2 31 (anyM_take hT334 5 63 (some 35) (vI j) (yld_val (Instr.loadAt 3 (vP w.heap.size 1)) (fun w' hC => rn_ld ((hK1.ext hC).cell rfl))) (anyM_take hT334 6 127 (some 36) (vI (4 * j)) (yld_in .i64 (IntKind.i64.wrap (((4 : Nat) : Int) * ((j : Nat) : Int))) (wrapS (by omega) (by omega) (by omega))) (anyM_run hT334 [(7, 37, (vI w_))] 1 255 (anyM_take hT334 8 511 (some 38) (vI (4 * j + w_)) (yld_in .i64 (IntKind.i64.wrap (((4 * j : Nat) : Int) + ((w_ : Nat) : Int))) (wrapS (by omega) (by omega) (by omega))) (anyM_run hT334 [(9, 39, (vP w3.heap.size 1))] 1 1023 (anyM_take hT334 10 2047 (some 40) (.slice a1 (hgt n + 1) ca1) (yld_val (Instr.loadAt 60 (vP w3.heap.size 1)) (fun w' hC => rn_ld (((hBw5.ext hEw6).ext hC).cell rfl))) (anyM_run hT334 [(11, 41, (vP w.heap.size 0))] 1 4095 ?_)))))))))
  refine anyM_take hT334 12 8191 (some 42) (vI l) (yld_val (Instr.loadAt 3 (vP w.heap.size 0)) (fun w' hC => rn_ld ((hK1.ext hC).cell rfl))) (anyM_take hT334 13 16383 (some 43) (vI (l - 1)) (yld_in .i64 (IntKind.i64.wrap (((l : Nat) : Int) - ((1 : Nat) : Int))) (wrapS (by omega) (by omega) (by omega))) ?_)
  obtain ⟨b1, o1, rfl⟩ := hFz1_0.addr (by omega)
  refine anyM_take hT334 14 32767 (some 44) (vP b1 (o1 + (l - 1) * 1)) (yld_val (Instr.indexAt 60 (.slice (pA b1 o1) (hgt n + 1) ca1) (vI (l - 1))) (fun w' hC => rn_ixs (E := 3) (sz := 1) (by omega))) ?_
  have hK2 := (((((hFz1_0.ext hEw4)).chg hCw5 (fun k h1 h2 hs => by have h : k = _ := hs; omega))).ext hEw6)
  refine anyM_take hT334 15 65535 (some 45) (vI (gt (cts n) (l - 1))) (yld_val (Instr.loadAt 3 (vP b1 (o1 + (l - 1) * 1))) (fun w' hC => rn_ld ((hK2.ext hC).celln (by omega)))) (anyM_take hT334 16 131071 (some 46) vT (yld_b (decide (((4 * j + w_ : Nat) : Int) ≥ ((gt (cts n) (l - 1) : Nat) : Int))) (cmpDT (by rw [gt_cts_pred hp5 (by omega)]; omega))) (anyM_run hT334 [(17, 47, vT), (18, 29, vT)] 2 524287 (anyM_done (then_code (wpC_true (wpC_seq (wpC_region (wpF_run 1 [(48, (vA [(vI 0), (vI 0)]))] ?_))))))))
  have hK3 := (((((((hBw2.ext hEw3)).ext hEw4)).chg hCw5 (fun hs => by have h : _ = _ := hs; omega))).ext hEw6)
  refine wpF_step (op_store 45 w1.heap.size 0 45 (vA [(vI 0), (vI 0)]) ([(vI 0), (vI 0)]) ([(vI 0), (vI 0)]) hK3 (by kernel_rfl) (by first | decide | (simp; done) | (simp; omega)) (by simp [Value.oneCell']) ?_)
  have hK4 := (((((((hBw2.ext hEw3)).ext hEw4)).chg hCw5 (fun hs => by have h : _ = _ := hs; omega))).ext hEw6)
  intro w7 hBw7 hCw7
  have hzw7 := hCw7.size
  rw [setFrom_all _ _ (by kernel_rfl)] at hBw7
  refine wpF_run 1 [(7, (vI 11))] (wpF_end (then_code (wpC_ret (inBlock_ret (then_ret (body_ret2 (show resVal Try.prog 58 _ _ (.cell 6 45) (vA [(vI 0), (vI 0)]) from ⟨⟨w1.heap.size, 0, none⟩, (by kernel_rfl), run_loadVar_agg (T := 45) (vs := [(vI 0), (vI 0)]) (hBw7).all (by kernel_rfl)⟩) (show resVal Try.prog 58 _ _ (.tmp 7) (vI 11) by (show _ = _; kernel_rfl)) ?_))))))
  have hX1 : Ext w w7 := (Ext.own ((Ext.own (((hEw1.trans hEw2).trans hEw3).trans hEw4) hCw5 (by omega)).trans hEw6) hCw7 (by omega))
  exact ⟨rfl, hX1⟩

theorem c_Child (n : Nat) (l : Nat) (j : Nat) (w_ : Nat)  (w : World) (hp0 : 1 ≤ n) (hp1 : n ≤ 4096) (hp2 : l ≤ hgt n) (hp3 : j < cnt n l) (hp4 : w_ < 4) (hp5 : l ≠ 0) (hp6 : 4 * j + w_ < und n l) :
    Calls Try.prog 29 #[(vI n), (vA [(vI l), (vI j)]), (vI w_)] w (Ret fun r w' => r = (.tuple #[(vA [(vI (l - 1)), (vI (4 * j + w_))]), (vI 0)]) ∧ Ext w w') := by
  refine calls_of (n := 58) (σ := [(0, (vI n)), (1, (vA [(vI l), (vI j)])), (2, (vI w_))]) Try.func29 rfl ?_
  have h5 := hgt_le n
  have hcn := cnt_n n l
  have hun := und_n n l
  have hlc := lt_cnt.1 hp3
  refine wpC_seq (wpC_region (wpF_step (op_new (some 4) (Instr.box 45 (vA [(vI l), (vI j)])) (vP w.heap.size 0) ([(vI l), (vI j)]) 45 ?_)))
  intro w1 hBw1 hEw1
  have hzw1 := hEw1.size; have hlw1 := hBw1.lt
  refine wpF_step (op_new (some 6) (Instr.alloc 45 true (.tuple #[])) (vP w1.heap.size 0) ([(vI 0), (vI 0)]) 45 ?_)
  intro w2 hBw2 hEw2
  have hzw2 := hEw2.size; have hlw2 := hBw2.lt
  refine wpF_run 1 [(7, (vI 0))] (wpF_end (then_code (wpC_seq (wpC_region (wpF_run 1 [(11, (vI n))] (wpF_step (op_v (some 12) (Instr.loadAt 45 (vP w.heap.size 0)) (vA [(vI l), (vI j)]) (rn_lda (vs := [(vI l), (vI j)]) ((hBw1.ext hEw2).all)) ?_)))))))
  refine wpF_step (op_call (some 13) (c_at n l j _ (by omega) (by omega) (by omega) (by omega)) ?_)
  rintro _ w3 ⟨a1, ca1, rfl, hFz1_0, hEw3⟩
  have hzw3 := hEw3.size
  have hlea1 := hFz1_0.le
  refine wpF_run 3 [(15, (vI 0)), (14, (vA [(vI n), (.slice a1 (hgt n + 1) ca1)])), (10, (.tuple #[(vA [(vI n), (.slice a1 (hgt n + 1) ca1)]), (vI 0)]))] (wpF_step (op_new (some 8) (Instr.alloc 62 true (.tuple #[])) (vP w3.heap.size 0) ([(vI 0), (.slice none 0 0)]) 62 ?_))
  intro w4 hBw4 hEw4
  have hzw4 := hEw4.size; have hlw4 := hBw4.lt
  refine wpF_step (op_store 62 w3.heap.size 0 62 (vA [(vI n), (.slice a1 (hgt n + 1) ca1)]) ([(vI 0), (.slice none 0 0)]) ([(vI n), (.slice a1 (hgt n + 1) ca1)]) hBw4 (by kernel_rfl) (by first | decide | (simp; done) | (simp; omega)) (by simp [Value.oneCell']) ?_)
  intro w5 hBw5 hCw5
  have hzw5 := hCw5.size
  rw [setFrom_all _ _ (by kernel_rfl)] at hBw5
  refine wpF_run 1 [(9, (vI 0))] (wpF_end (then_code (wpC_seq (wpC_block (wpC_seq (wpC_region (wpF_run 3 [(16, vF), (18, vF), (17, (vI 0))] (wpF_end (then_code ?_)))))))))
  refine wpC_false (wpC_seq (wpC_region (wpF_run 1 [(22, (vI w_))] (wpF_step (op_b (some 23) (decide (((w_ : Nat) : Int) < ((0 : Nat) : Int))) false (cmpDF (by omega)) ?_)))))
  refine wpF_run 2 [(25, (vI w_)), (24, vF)] (wpF_step (op_b (some 26) (decide (((w_ : Nat) : Int) ≥ ((4 : Nat) : Int))) false (cmpDF (by omega)) ?_))
  refine wpF_run 2 [(21, vF), (27, vF)] (wpF_end (then_code (wpC_false (wpC_seq (wpC_drawM (Ext w5.drew) 19 [(31, 16, 0), (32, 1073741824, 1), (33, 2147483648, 2), (34, 4294967296, 4), (35, 8589934608, 8), (36, 25769803776, 24), (37, 42949672960, 40), (38, 8589934596, 8), (39, 214748364800, 200), (40, 8589934848, 8), (41, 558345748480, 520), (42, 8589934608, 8), (43, 2207613190144, 2056), (44, 4406636445696, 4104), (45, 9904194584576, 9224), (46, 17600775979008, 16392), (47, 35467839930368, 33032), (48, 70377334112256, 65544), (30, 140737488355328, 131080)] (fun hT384 => ?_))))))
  have hEw6 : Ext w5 w5.drew := Ext.drew w5
  generalize w5.drew = w6 at hEw6 ⊢
  have hzw6 := hEw6.size
  refine anyM_run hT384 [(0, 30, (vP w.heap.size 0))] 1 1 ?_
  have hK1 := (((((((((hBw1.ext hEw2)).ext hEw3)).ext hEw4)).chg hCw5 (fun hs => by have h : _ = _ := hs; omega))).ext hEw6)
  refine anyM_take hT384 1 3 (some 31) (vI l) (yld_val (Instr.loadAt 3 (vP w.heap.size 0)) (fun w' hC => rn_ld ((hK1.ext hC).cell rfl))) (anyM_take hT384 2 7 (some 32) vF (yld_b (((l : Nat) : Int) == ((0 : Nat) : Int)) (cmpEqF (by omega))) (anyM_run hT384 [(3, 33, vF), (4, 34, (vP w.heap.size 1))] 2 31 (anyM_take hT384 5 63 (some 35) (vI j) (yld_val (Instr.loadAt 3 (vP w.heap.size 1)) (fun w' hC => rn_ld ((hK1.ext hC).cell rfl))) (anyM_take hT384 6 127 (some 36) (vI (4 * j)) (yld_in .i64 (IntKind.i64.wrap (((4 : Nat) : Int) * ((j : Nat) : Int))) (wrapS (by omega) (by omega) (by omega))) (anyM_run hT384 [(7, 37, (vI w_))] 1 255 (anyM_take hT384 8 511 (some 38) (vI (4 * j + w_)) (yld_in .i64 (IntKind.i64.wrap (((4 * j : Nat) : Int) + ((w_ : Nat) : Int))) (wrapS (by omega) (by omega) (by omega))) (anyM_run hT384 [(9, 39, (vP w3.heap.size 1))] 1 1023 (anyM_take hT384 10 2047 (some 40) (.slice a1 (hgt n + 1) ca1) (yld_val (Instr.loadAt 60 (vP w3.heap.size 1)) (fun w' hC => rn_ld (((hBw5.ext hEw6).ext hC).cell rfl))) (anyM_run hT384 [(11, 41, (vP w.heap.size 0))] 1 4095 ?_)))))))))
  refine anyM_take hT384 12 8191 (some 42) (vI l) (yld_val (Instr.loadAt 3 (vP w.heap.size 0)) (fun w' hC => rn_ld ((hK1.ext hC).cell rfl))) (anyM_take hT384 13 16383 (some 43) (vI (l - 1)) (yld_in .i64 (IntKind.i64.wrap (((l : Nat) : Int) - ((1 : Nat) : Int))) (wrapS (by omega) (by omega) (by omega))) ?_)
  obtain ⟨b1, o1, rfl⟩ := hFz1_0.addr (by omega)
  refine anyM_take hT384 14 32767 (some 44) (vP b1 (o1 + (l - 1) * 1)) (yld_val (Instr.indexAt 60 (.slice (pA b1 o1) (hgt n + 1) ca1) (vI (l - 1))) (fun w' hC => rn_ixs (E := 3) (sz := 1) (by omega))) ?_
  have hK2 := (((((hFz1_0.ext hEw4)).chg hCw5 (fun k h1 h2 hs => by have h : k = _ := hs; omega))).ext hEw6)
  refine anyM_take hT384 15 65535 (some 45) (vI (gt (cts n) (l - 1))) (yld_val (Instr.loadAt 3 (vP b1 (o1 + (l - 1) * 1))) (fun w' hC => rn_ld ((hK2.ext hC).celln (by omega)))) (anyM_take hT384 16 131071 (some 46) vF (yld_b (decide (((4 * j + w_ : Nat) : Int) ≥ ((gt (cts n) (l - 1) : Nat) : Int))) (cmpDF (by rw [gt_cts_pred hp5 (by omega)]; omega))) (anyM_run hT384 [(17, 47, vF), (18, 29, vF)] 2 524287 (anyM_done (then_code (wpC_false (wpC_skip (inBlock_normal (then_code (wpC_seq ?_)))))))))
  refine wpC_region (wpF_run 1 [(49, (vP w.heap.size 0))] (wpF_step (op_v (some 50) (Instr.loadAt 3 (vP w.heap.size 0)) (vI l) (rn_ld (hK1.cell rfl)) ?_)))
  refine wpF_step (op_in (some 51) .i64 (IntKind.i64.wrap (((l : Nat) : Int) - ((1 : Nat) : Int))) (l - 1) (wrapS (by omega) (by omega) (by omega)) ?_)
  refine wpF_run 1 [(52, (vP w.heap.size 1))] (wpF_step (op_v (some 53) (Instr.loadAt 3 (vP w.heap.size 1)) (vI j) (rn_ld (hK1.cell rfl)) ?_))
  refine wpF_step (op_in (some 54) .i64 (IntKind.i64.wrap (((4 : Nat) : Int) * ((j : Nat) : Int))) (4 * j) (wrapS (by omega) (by omega) (by omega)) ?_)
  refine wpF_run 1 [(55, (vI w_))] (wpF_step (op_in (some 56) .i64 (IntKind.i64.wrap (((4 * j : Nat) : Int) + ((w_ : Nat) : Int))) (4 * j + w_) (wrapS (by omega) (by omega) (by omega)) ?_))
  refine wpF_run 1 [(57, (vA [(vI (l - 1)), (vI (4 * j + w_))]))] ?_
  have hK3 := (((((((hBw2.ext hEw3)).ext hEw4)).chg hCw5 (fun hs => by have h : _ = _ := hs; omega))).ext hEw6)
  refine wpF_step (op_store 45 w1.heap.size 0 45 (vA [(vI (l - 1)), (vI (4 * j + w_))]) ([(vI 0), (vI 0)]) ([(vI (l - 1)), (vI (4 * j + w_))]) hK3 (by kernel_rfl) (by first | decide | (simp; done) | (simp; omega)) (by simp [Value.oneCell']) ?_)
  have hK4 := (((((((hBw2.ext hEw3)).ext hEw4)).chg hCw5 (fun hs => by have h : _ = _ := hs; omega))).ext hEw6)
  intro w7 hBw7 hCw7
  have hzw7 := hCw7.size
  rw [setFrom_all _ _ (by kernel_rfl)] at hBw7
  refine wpF_run 1 [(7, (vI 0))] (wpF_end (then_code (wpC_ret (body_ret2 (show resVal Try.prog 58 _ _ (.cell 6 45) (vA [(vI (l - 1)), (vI (4 * j + w_))]) from ⟨⟨w1.heap.size, 0, none⟩, (by kernel_rfl), run_loadVar_agg (T := 45) (vs := [(vI (l - 1)), (vI (4 * j + w_))]) (hBw7).all (by kernel_rfl)⟩) (show resVal Try.prog 58 _ _ (.tmp 7) (vI 0) by (show _ = _; kernel_rfl)) ?_))))
  have hX1 : Ext w w7 := (Ext.own ((Ext.own (((hEw1.trans hEw2).trans hEw3).trans hEw4) hCw5 (by omega)).trans hEw6) hCw7 (by omega))
  exact ⟨rfl, hX1⟩

theorem c_block (n : Nat) (i : Nat)  (w : World) (hp0 : 1 ≤ n) (hp1 : n ≤ 4096) (hp2 : i < n) :
    Calls Try.prog 37 #[(vI n), (vI i)] w (Ret fun r w' => ∃ a1 ca1, r = (.tuple #[(vA [(vI n), (.slice a1 (hgt n + 1) ca1)]), (vI 0)]) ∧ Es (nv .i64) w.heap.size w'.heap.size w' a1 (hgt n + 1) ca1 (cts n) ∧ Ext w w') := by
  refine calls_of (n := 26) (σ := [(0, (vI n)), (1, (vI i))]) Try.func37 rfl ?_
  refine wpC_seq (wpC_region (wpF_step (op_new (some 4) (Instr.alloc 62 true (.tuple #[])) (vP w.heap.size 0) ([(vI 0), (.slice none 0 0)]) 62 ?_)))
  intro w1 hBw1 hEw1
  have hzw1 := hEw1.size; have hlw1 := hBw1.lt
  refine wpF_run 1 [(5, (vI 0))] (wpF_end (then_code (wpC_seq (wpC_region (wpF_run 1 [(9, (vI n))] (wpF_step (op_call (some 10) (c_of n _ (by omega) (by omega)) ?_)))))))
  rintro _ w2 ⟨a1, ca1, rfl, hFz1_0, hEw2⟩
  have hzw2 := hEw2.size
  have hlea1 := hFz1_0.le
  refine wpF_run 3 [(12, (vI 0)), (11, (vA [(vI n), (.slice a1 (hgt n + 1) ca1)])), (8, (.tuple #[(vA [(vI n), (.slice a1 (hgt n + 1) ca1)]), (vI 0)]))] (wpF_step (op_new (some 6) (Instr.alloc 62 true (.tuple #[])) (vP w2.heap.size 0) ([(vI 0), (.slice none 0 0)]) 62 ?_))
  intro w3 hBw3 hEw3
  have hzw3 := hEw3.size; have hlw3 := hBw3.lt
  refine wpF_step (op_store 62 w2.heap.size 0 62 (vA [(vI n), (.slice a1 (hgt n + 1) ca1)]) ([(vI 0), (.slice none 0 0)]) ([(vI n), (.slice a1 (hgt n + 1) ca1)]) hBw3 (by kernel_rfl) (by first | decide | (simp; done) | (simp; omega)) (by simp [Value.oneCell']) ?_)
  intro w4 hBw4 hCw4
  have hzw4 := hCw4.size
  rw [setFrom_all _ _ (by kernel_rfl)] at hBw4
  refine wpF_run 1 [(7, (vI 0))] (wpF_end (then_code (wpC_seq (wpC_seq (wpC_region (wpF_run 1 [(13, (vI 0))] (wpF_step (op_b (some 14) (((0 : Nat) : Int) == ((0 : Nat) : Int)) true (cmpEqT (by omega)) ?_))))))))
  refine wpF_run 2 [(16, (vI i)), (15, vT)] (wpF_step (op_b (some 17) (decide (((i : Nat) : Int) < ((0 : Nat) : Int))) false (cmpDF (by omega)) ?_))
  refine wpF_run 3 [(20, (vI n)), (19, (vI i)), (18, vF)] (wpF_step (op_b (some 21) (decide (((i : Nat) : Int) ≥ ((n : Nat) : Int))) false (cmpDF (by omega)) ?_))
  refine wpF_run 2 [(23, vF), (22, vF)] (wpF_end (then_code (wpC_false (wpC_skip (then_code (wpC_seq (wpC_region (wpF_step (op_v (some 24) (Instr.loadAt 62 (vP w2.heap.size 0)) (vA [(vI n), (.slice a1 (hgt n + 1) ca1)]) (rn_lda (vs := [(vI n), (.slice a1 (hgt n + 1) ca1)]) (hBw4.all)) ?_)))))))))
  refine wpF_run 1 [(25, (vI 0))] ?_
  have hK1 := (((((hBw1.ext hEw2)).ext hEw3)).chg hCw4 (fun hs => by have h : _ = _ := hs; omega))
  refine wpF_step (op_store 62 w.heap.size 0 62 (vA [(vI n), (.slice a1 (hgt n + 1) ca1)]) ([(vI 0), (.slice none 0 0)]) ([(vI n), (.slice a1 (hgt n + 1) ca1)]) hK1 (by kernel_rfl) (by first | decide | (simp; done) | (simp; omega)) (by simp [Value.oneCell']) ?_)
  have hK2 := (((((hBw1.ext hEw2)).ext hEw3)).chg hCw4 (fun hs => by have h : _ = _ := hs; omega))
  intro w5 hBw5 hCw5
  have hzw5 := hCw5.size
  rw [setFrom_all _ _ (by kernel_rfl)] at hBw5
  refine wpF_run 1 [(5, (vI 0))] (wpF_end (then_code (wpC_ret (body_ret2 (show resVal Try.prog 26 _ _ (.cell 4 62) (vA [(vI n), (.slice a1 (hgt n + 1) ca1)]) from ⟨⟨w.heap.size, 0, none⟩, (by kernel_rfl), run_loadVar_agg (T := 62) (vs := [(vI n), (.slice a1 (hgt n + 1) ca1)]) (hBw5).all (by kernel_rfl)⟩) (show resVal Try.prog 26 _ _ (.tmp 5) (vI 0) by (show _ = _; kernel_rfl)) ?_))))
  have hK3 := (((((hFz1_0.ext hEw3)).chg hCw4 (fun k h1 h2 hs => by have h : k = _ := hs; omega))).chg hCw5 (fun k h1 h2 hs => by have h : k = _ := hs; omega))
  have hX1 : Ext w w5 := (Ext.own (Ext.own ((hEw1.trans hEw2).trans hEw3) hCw4 (by omega)) hCw5 (by omega))
  exact ⟨_, _, rfl, (hK3).now.mono (by omega) (Nat.le_refl _), hX1⟩

theorem c_blockB0 (n : Int) (i : Int)  (w : World) (hp0 : ¬ (1 ≤ n ∧ n ≤ 4096)) :
    Calls Try.prog 37 #[(.int .i64 n), (.int .i64 i)] w (Ret fun r w' => ∃ (a0 : Int) (a1 : Option Addr) (na1 : Nat) (ca1 : Nat), r = (.tuple #[(vA [(.int .i64 a0), (.slice a1 na1 ca1)]), (vI 1)]) ∧ Ext w w') := by
  refine calls_of (n := 26) (σ := [(0, (.int .i64 n)), (1, (.int .i64 i))]) Try.func37 rfl ?_
  refine wpC_seq (wpC_region (wpF_step (op_new (some 4) (Instr.alloc 62 true (.tuple #[])) (vP w.heap.size 0) ([(vI 0), (.slice none 0 0)]) 62 ?_)))
  intro w1 hBw1 hEw1
  have hzw1 := hEw1.size; have hlw1 := hBw1.lt
  refine wpF_run 1 [(5, (vI 0))] (wpF_end (then_code (wpC_seq (wpC_region (wpF_run 1 [(9, (.int .i64 n))] (wpF_step (op_call (some 10) (c_ofBad n _ (by omega)) ?_)))))))
  rintro _ w2 ⟨rfl, hEw2⟩
  have hzw2 := hEw2.size
  refine wpF_run 3 [(12, (vI 1)), (11, (vA [(vI 0), (.slice none 0 0)])), (8, (.tuple #[(vA [(vI 0), (.slice none 0 0)]), (vI 1)]))] (wpF_step (op_new (some 6) (Instr.alloc 62 true (.tuple #[])) (vP w2.heap.size 0) ([(vI 0), (.slice none 0 0)]) 62 ?_))
  intro w3 hBw3 hEw3
  have hzw3 := hEw3.size; have hlw3 := hBw3.lt
  refine wpF_step (op_store 62 w2.heap.size 0 62 (vA [(vI 0), (.slice none 0 0)]) ([(vI 0), (.slice none 0 0)]) ([(vI 0), (.slice none 0 0)]) hBw3 (by kernel_rfl) (by first | decide | (simp; done) | (simp; omega)) (by simp [Value.oneCell']) ?_)
  intro w4 hBw4 hCw4
  have hzw4 := hCw4.size
  rw [setFrom_all _ _ (by kernel_rfl)] at hBw4
  refine wpF_run 1 [(7, (vI 1))] (wpF_end (then_code (wpC_seq (wpC_seq (wpC_region (wpF_run 1 [(13, (vI 1))] (wpF_step (op_b (some 14) (((1 : Nat) : Int) == ((0 : Nat) : Int)) false (cmpEqF (by omega)) ?_))))))))
  refine wpF_run 9 [(23, vF), (22, undef), (21, undef), (20, undef), (19, undef), (18, undef), (17, undef), (16, undef), (15, vF)] (wpF_end (then_code (wpC_false (wpC_skip (then_code (wpC_seq (wpC_region (wpF_step (op_v (some 24) (Instr.loadAt 62 (vP w2.heap.size 0)) (vA [(vI 0), (.slice none 0 0)]) (rn_lda (vs := [(vI 0), (.slice none 0 0)]) (hBw4.all)) ?_)))))))))
  refine wpF_run 1 [(25, (vI 1))] ?_
  have hK1 := (((((hBw1.ext hEw2)).ext hEw3)).chg hCw4 (fun hs => by have h : _ = _ := hs; omega))
  refine wpF_step (op_store 62 w.heap.size 0 62 (vA [(vI 0), (.slice none 0 0)]) ([(vI 0), (.slice none 0 0)]) ([(vI 0), (.slice none 0 0)]) hK1 (by kernel_rfl) (by first | decide | (simp; done) | (simp; omega)) (by simp [Value.oneCell']) ?_)
  have hK2 := (((((hBw1.ext hEw2)).ext hEw3)).chg hCw4 (fun hs => by have h : _ = _ := hs; omega))
  intro w5 hBw5 hCw5
  have hzw5 := hCw5.size
  rw [setFrom_all _ _ (by kernel_rfl)] at hBw5
  refine wpF_run 1 [(5, (vI 1))] (wpF_end (then_code (wpC_ret (body_ret2 (show resVal Try.prog 26 _ _ (.cell 4 62) (vA [(vI 0), (.slice none 0 0)]) from ⟨⟨w.heap.size, 0, none⟩, (by kernel_rfl), run_loadVar_agg (T := 62) (vs := [(vI 0), (.slice none 0 0)]) (hBw5).all (by kernel_rfl)⟩) (show resVal Try.prog 26 _ _ (.tmp 5) (vI 1) by (show _ = _; kernel_rfl)) ?_))))
  have hX1 : Ext w w5 := (Ext.own (Ext.own ((hEw1.trans hEw2).trans hEw3) hCw4 (by omega)) hCw5 (by omega))
  exact ⟨_, _, _, _, rfl, hX1⟩

theorem c_blockB1 (n : Nat) (i : Int)  (w : World) (hp0 : 1 ≤ n) (hp1 : n ≤ 4096) (hp2 : i < 0) :
    Calls Try.prog 37 #[(vI n), (.int .i64 i)] w (Ret fun r w' => ∃ (a0 : Int) (a1 : Option Addr) (na1 : Nat) (ca1 : Nat), r = (.tuple #[(vA [(.int .i64 a0), (.slice a1 na1 ca1)]), (vI 1)]) ∧ Ext w w') := by
  refine calls_of (n := 26) (σ := [(0, (vI n)), (1, (.int .i64 i))]) Try.func37 rfl ?_
  refine wpC_seq (wpC_region (wpF_step (op_new (some 4) (Instr.alloc 62 true (.tuple #[])) (vP w.heap.size 0) ([(vI 0), (.slice none 0 0)]) 62 ?_)))
  intro w1 hBw1 hEw1
  have hzw1 := hEw1.size; have hlw1 := hBw1.lt
  refine wpF_run 1 [(5, (vI 0))] (wpF_end (then_code (wpC_seq (wpC_region (wpF_run 1 [(9, (vI n))] (wpF_step (op_call (some 10) (c_of n _ (by omega) (by omega)) ?_)))))))
  rintro _ w2 ⟨a1, ca1, rfl, hFz1_0, hEw2⟩
  have hzw2 := hEw2.size
  have hlea1 := hFz1_0.le
  refine wpF_run 3 [(12, (vI 0)), (11, (vA [(vI n), (.slice a1 (hgt n + 1) ca1)])), (8, (.tuple #[(vA [(vI n), (.slice a1 (hgt n + 1) ca1)]), (vI 0)]))] (wpF_step (op_new (some 6) (Instr.alloc 62 true (.tuple #[])) (vP w2.heap.size 0) ([(vI 0), (.slice none 0 0)]) 62 ?_))
  intro w3 hBw3 hEw3
  have hzw3 := hEw3.size; have hlw3 := hBw3.lt
  refine wpF_step (op_store 62 w2.heap.size 0 62 (vA [(vI n), (.slice a1 (hgt n + 1) ca1)]) ([(vI 0), (.slice none 0 0)]) ([(vI n), (.slice a1 (hgt n + 1) ca1)]) hBw3 (by kernel_rfl) (by first | decide | (simp; done) | (simp; omega)) (by simp [Value.oneCell']) ?_)
  intro w4 hBw4 hCw4
  have hzw4 := hCw4.size
  rw [setFrom_all _ _ (by kernel_rfl)] at hBw4
  refine wpF_run 1 [(7, (vI 0))] (wpF_end (then_code (wpC_seq (wpC_seq (wpC_region (wpF_run 1 [(13, (vI 0))] (wpF_step (op_b (some 14) (((0 : Nat) : Int) == ((0 : Nat) : Int)) true (cmpEqT (by omega)) ?_))))))))
  refine wpF_run 2 [(16, (.int .i64 i)), (15, vT)] (wpF_step (op_b (some 17) (decide (i < ((0 : Nat) : Int))) true (cmpDT (by omega)) ?_))
  refine wpF_run 6 [(23, vT), (22, vT), (21, undef), (20, undef), (19, undef), (18, vT)] (wpF_end (then_code (wpC_true (wpC_region (wpF_run 1 [(7, (vI 1))] (wpF_end (then_code (wpC_seq (wpC_region ?_)))))))))
  refine wpF_step (op_v (some 24) (Instr.loadAt 62 (vP w2.heap.size 0)) (vA [(vI n), (.slice a1 (hgt n + 1) ca1)]) (rn_lda (vs := [(vI n), (.slice a1 (hgt n + 1) ca1)]) (hBw4.all)) ?_)
  refine wpF_run 1 [(25, (vI 1))] ?_
  have hK1 := (((((hBw1.ext hEw2)).ext hEw3)).chg hCw4 (fun hs => by have h : _ = _ := hs; omega))
  refine wpF_step (op_store 62 w.heap.size 0 62 (vA [(vI n), (.slice a1 (hgt n + 1) ca1)]) ([(vI 0), (.slice none 0 0)]) ([(vI n), (.slice a1 (hgt n + 1) ca1)]) hK1 (by kernel_rfl) (by first | decide | (simp; done) | (simp; omega)) (by simp [Value.oneCell']) ?_)
  have hK2 := (((((hBw1.ext hEw2)).ext hEw3)).chg hCw4 (fun hs => by have h : _ = _ := hs; omega))
  intro w5 hBw5 hCw5
  have hzw5 := hCw5.size
  rw [setFrom_all _ _ (by kernel_rfl)] at hBw5
  refine wpF_run 1 [(5, (vI 1))] (wpF_end (then_code (wpC_ret (body_ret2 (show resVal Try.prog 26 _ _ (.cell 4 62) (vA [(vI n), (.slice a1 (hgt n + 1) ca1)]) from ⟨⟨w.heap.size, 0, none⟩, (by kernel_rfl), run_loadVar_agg (T := 62) (vs := [(vI n), (.slice a1 (hgt n + 1) ca1)]) (hBw5).all (by kernel_rfl)⟩) (show resVal Try.prog 26 _ _ (.tmp 5) (vI 1) by (show _ = _; kernel_rfl)) ?_))))
  have hX1 : Ext w w5 := (Ext.own (Ext.own ((hEw1.trans hEw2).trans hEw3) hCw4 (by omega)) hCw5 (by omega))
  exact ⟨_, _, _, _, rfl, hX1⟩

theorem c_blockB2 (n : Nat) (i : Int)  (w : World) (hp0 : 1 ≤ n) (hp1 : n ≤ 4096) (hp2 : (n : Int) ≤ i) :
    Calls Try.prog 37 #[(vI n), (.int .i64 i)] w (Ret fun r w' => ∃ (a0 : Int) (a1 : Option Addr) (na1 : Nat) (ca1 : Nat), r = (.tuple #[(vA [(.int .i64 a0), (.slice a1 na1 ca1)]), (vI 1)]) ∧ Ext w w') := by
  refine calls_of (n := 26) (σ := [(0, (vI n)), (1, (.int .i64 i))]) Try.func37 rfl ?_
  refine wpC_seq (wpC_region (wpF_step (op_new (some 4) (Instr.alloc 62 true (.tuple #[])) (vP w.heap.size 0) ([(vI 0), (.slice none 0 0)]) 62 ?_)))
  intro w1 hBw1 hEw1
  have hzw1 := hEw1.size; have hlw1 := hBw1.lt
  refine wpF_run 1 [(5, (vI 0))] (wpF_end (then_code (wpC_seq (wpC_region (wpF_run 1 [(9, (vI n))] (wpF_step (op_call (some 10) (c_of n _ (by omega) (by omega)) ?_)))))))
  rintro _ w2 ⟨a1, ca1, rfl, hFz1_0, hEw2⟩
  have hzw2 := hEw2.size
  have hlea1 := hFz1_0.le
  refine wpF_run 3 [(12, (vI 0)), (11, (vA [(vI n), (.slice a1 (hgt n + 1) ca1)])), (8, (.tuple #[(vA [(vI n), (.slice a1 (hgt n + 1) ca1)]), (vI 0)]))] (wpF_step (op_new (some 6) (Instr.alloc 62 true (.tuple #[])) (vP w2.heap.size 0) ([(vI 0), (.slice none 0 0)]) 62 ?_))
  intro w3 hBw3 hEw3
  have hzw3 := hEw3.size; have hlw3 := hBw3.lt
  refine wpF_step (op_store 62 w2.heap.size 0 62 (vA [(vI n), (.slice a1 (hgt n + 1) ca1)]) ([(vI 0), (.slice none 0 0)]) ([(vI n), (.slice a1 (hgt n + 1) ca1)]) hBw3 (by kernel_rfl) (by first | decide | (simp; done) | (simp; omega)) (by simp [Value.oneCell']) ?_)
  intro w4 hBw4 hCw4
  have hzw4 := hCw4.size
  rw [setFrom_all _ _ (by kernel_rfl)] at hBw4
  refine wpF_run 1 [(7, (vI 0))] (wpF_end (then_code (wpC_seq (wpC_seq (wpC_region (wpF_run 1 [(13, (vI 0))] (wpF_step (op_b (some 14) (((0 : Nat) : Int) == ((0 : Nat) : Int)) true (cmpEqT (by omega)) ?_))))))))
  refine wpF_run 2 [(16, (.int .i64 i)), (15, vT)] (wpF_step (op_b (some 17) (decide (i < ((0 : Nat) : Int))) false (cmpDF (by omega)) ?_))
  refine wpF_run 3 [(20, (vI n)), (19, (.int .i64 i)), (18, vF)] (wpF_step (op_b (some 21) (decide (i ≥ ((n : Nat) : Int))) true (cmpDT (by omega)) ?_))
  refine wpF_run 2 [(23, vT), (22, vT)] (wpF_end (then_code (wpC_true (wpC_region (wpF_run 1 [(7, (vI 1))] (wpF_end (then_code (wpC_seq (wpC_region ?_)))))))))
  refine wpF_step (op_v (some 24) (Instr.loadAt 62 (vP w2.heap.size 0)) (vA [(vI n), (.slice a1 (hgt n + 1) ca1)]) (rn_lda (vs := [(vI n), (.slice a1 (hgt n + 1) ca1)]) (hBw4.all)) ?_)
  refine wpF_run 1 [(25, (vI 1))] ?_
  have hK1 := (((((hBw1.ext hEw2)).ext hEw3)).chg hCw4 (fun hs => by have h : _ = _ := hs; omega))
  refine wpF_step (op_store 62 w.heap.size 0 62 (vA [(vI n), (.slice a1 (hgt n + 1) ca1)]) ([(vI 0), (.slice none 0 0)]) ([(vI n), (.slice a1 (hgt n + 1) ca1)]) hK1 (by kernel_rfl) (by first | decide | (simp; done) | (simp; omega)) (by simp [Value.oneCell']) ?_)
  have hK2 := (((((hBw1.ext hEw2)).ext hEw3)).chg hCw4 (fun hs => by have h : _ = _ := hs; omega))
  intro w5 hBw5 hCw5
  have hzw5 := hCw5.size
  rw [setFrom_all _ _ (by kernel_rfl)] at hBw5
  refine wpF_run 1 [(5, (vI 1))] (wpF_end (then_code (wpC_ret (body_ret2 (show resVal Try.prog 26 _ _ (.cell 4 62) (vA [(vI n), (.slice a1 (hgt n + 1) ca1)]) from ⟨⟨w.heap.size, 0, none⟩, (by kernel_rfl), run_loadVar_agg (T := 62) (vs := [(vI n), (.slice a1 (hgt n + 1) ca1)]) (hBw5).all (by kernel_rfl)⟩) (show resVal Try.prog 26 _ _ (.tmp 5) (vI 1) by (show _ = _; kernel_rfl)) ?_))))
  have hX1 : Ext w w5 := (Ext.own (Ext.own ((hEw1.trans hEw2).trans hEw3) hCw4 (by omega)) hCw5 (by omega))
  exact ⟨_, _, _, _, rfl, hX1⟩

theorem c_blockBad (n : Int) (i : Int)  (w : World) (hp0 : ¬ ((1 ≤ n ∧ n ≤ 4096) ∧ (0 ≤ i ∧ i < n))) :
    Calls Try.prog 37 #[(.int .i64 n), (.int .i64 i)] w (Ret fun r w' => ∃ (a0 : Int) (a1 : Option Addr) (na1 : Nat) (ca1 : Nat), r = (.tuple #[(vA [(.int .i64 a0), (.slice a1 na1 ca1)]), (vI 1)]) ∧ Ext w w') := by
  by_cases h : 1 ≤ n ∧ n ≤ 4096
  · obtain ⟨m, rfl⟩ := Int.eq_ofNat_of_zero_le (show 0 ≤ n by omega)
    by_cases hi : i < 0
    · exact c_blockB1 m i w (by omega) (by omega) hi
    · exact c_blockB2 m i w (by omega) (by omega) (by omega)
  · exact c_blockB0 n i w h

theorem c_Group (n : Nat) (i : Nat)  (w : World) (hp0 : 1 ≤ n) (hp1 : n ≤ 4096) (hp2 : i < n) :
    Calls Try.prog 32 #[(vI n), (vI i)] w (Ret fun r w' => r = (.tuple #[(vA [(vI 0), (vI (i / 4))]), (vI (i % 4)), (vI 0)]) ∧ Ext w w') := by
  refine calls_of (n := 24) (σ := [(0, (vI n)), (1, (vI i))]) Try.func32 rfl ?_
  refine wpC_seq (wpC_region (wpF_step (op_new (some 4) (Instr.alloc 45 true (.tuple #[])) (vP w.heap.size 0) ([(vI 0), (vI 0)]) 45 ?_)))
  intro w1 hBw1 hEw1
  have hzw1 := hEw1.size; have hlw1 := hBw1.lt
  refine wpF_run 2 [(6, (vI 0)), (5, (vI 0))] (wpF_end (then_code (wpC_seq (wpC_seq (wpC_region (wpF_run 2 [(11, (vI i)), (10, (vI n))] (wpF_step (op_call (some 12) (c_block n i _ (by omega) (by omega) (by omega)) ?_))))))))
  rintro _ w2 ⟨a1, ca1, rfl, hFz1_0, hEw2⟩
  have hzw2 := hEw2.size
  have hlea1 := hFz1_0.le
  refine wpF_run 3 [(14, (vI 0)), (13, (vA [(vI n), (.slice a1 (hgt n + 1) ca1)])), (9, (.tuple #[(vA [(vI n), (.slice a1 (hgt n + 1) ca1)]), (vI 0)]))] (wpF_step (op_new (some 7) (Instr.alloc 62 true (.tuple #[])) (vP w2.heap.size 0) ([(vI 0), (.slice none 0 0)]) 62 ?_))
  intro w3 hBw3 hEw3
  have hzw3 := hEw3.size; have hlw3 := hBw3.lt
  refine wpF_step (op_store 62 w2.heap.size 0 62 (vA [(vI n), (.slice a1 (hgt n + 1) ca1)]) ([(vI 0), (.slice none 0 0)]) ([(vI n), (.slice a1 (hgt n + 1) ca1)]) hBw3 (by kernel_rfl) (by first | decide | (simp; done) | (simp; omega)) (by simp [Value.oneCell']) ?_)
  intro w4 hBw4 hCw4
  have hzw4 := hCw4.size
  rw [setFrom_all _ _ (by kernel_rfl)] at hBw4
  refine wpF_run 1 [(8, (vI 0))] (wpF_end (then_code (wpC_seq (wpC_region (wpF_run 2 [(16, vF), (15, (vI 0))] (wpF_end (then_code (wpC_false (wpC_skip ?_)))))))))
  refine then_code (wpC_seq (wpC_region (wpF_run 1 [(19, (vI i))] (wpF_step (op_in (some 20) .i64 (IntKind.i64.wrap (((i : Nat) : Int).tdiv ((4 : Nat) : Int))) (i / 4) (wrapS (tdivN _ _) (by omega) (by omega)) ?_)))))
  refine wpF_run 2 [(22, (vI i)), (21, (vA [(vI 0), (vI (i / 4))]))] (wpF_step (op_in (some 23) .i64 (((i : Nat) : Int).tmod ((4 : Nat) : Int)) (i % 4) (tmodN _ _) ?_))
  have hK1 := (((((hBw1.ext hEw2)).ext hEw3)).chg hCw4 (fun hs => by have h : _ = _ := hs; omega))
  refine wpF_step (op_store 45 w.heap.size 0 45 (vA [(vI 0), (vI (i / 4))]) ([(vI 0), (vI 0)]) ([(vI 0), (vI (i / 4))]) hK1 (by kernel_rfl) (by first | decide | (simp; done) | (simp; omega)) (by simp [Value.oneCell']) ?_)
  have hK2 := (((((hBw1.ext hEw2)).ext hEw3)).chg hCw4 (fun hs => by have h : _ = _ := hs; omega))
  intro w5 hBw5 hCw5
  have hzw5 := hCw5.size
  rw [setFrom_all _ _ (by kernel_rfl)] at hBw5
  refine wpF_run 2 [(6, (vI 0)), (5, (vI (i % 4)))] (wpF_end (then_code (wpC_ret (body_ret3 (show resVal Try.prog 24 _ _ (.cell 4 45) (vA [(vI 0), (vI (i / 4))]) from ⟨⟨w.heap.size, 0, none⟩, (by kernel_rfl), run_loadVar_agg (T := 45) (vs := [(vI 0), (vI (i / 4))]) (hBw5).all (by kernel_rfl)⟩) (show resVal Try.prog 24 _ _ (.tmp 5) (vI (i % 4)) by (show _ = _; kernel_rfl)) (show resVal Try.prog 24 _ _ (.tmp 6) (vI 0) by (show _ = _; kernel_rfl)) ?_))))
  have hX1 : Ext w w5 := (Ext.own (Ext.own ((hEw1.trans hEw2).trans hEw3) hCw4 (by omega)) hCw5 (by omega))
  exact ⟨rfl, hX1⟩

theorem c_GroupBad (n : Int) (i : Int)  (w : World) (hp0 : ¬ ((1 ≤ n ∧ n ≤ 4096) ∧ (0 ≤ i ∧ i < n))) :
    Calls Try.prog 32 #[(.int .i64 n), (.int .i64 i)] w (Ret fun r w' => r = (.tuple #[(vA [(vI 0), (vI 0)]), (vI 0), (vI 1)]) ∧ Ext w w') := by
  refine calls_of (n := 24) (σ := [(0, (.int .i64 n)), (1, (.int .i64 i))]) Try.func32 rfl ?_
  refine wpC_seq (wpC_region (wpF_step (op_new (some 4) (Instr.alloc 45 true (.tuple #[])) (vP w.heap.size 0) ([(vI 0), (vI 0)]) 45 ?_)))
  intro w1 hBw1 hEw1
  have hzw1 := hEw1.size; have hlw1 := hBw1.lt
  refine wpF_run 2 [(6, (vI 0)), (5, (vI 0))] (wpF_end (then_code (wpC_seq (wpC_seq (wpC_region (wpF_run 2 [(11, (.int .i64 i)), (10, (.int .i64 n))] (wpF_step (op_call (some 12) (c_blockBad n i _ (by omega)) ?_))))))))
  rintro _ w2 ⟨a1, a2, na2, ca2, rfl, hEw2⟩
  have hzw2 := hEw2.size
  refine wpF_run 3 [(14, (vI 1)), (13, (vA [(.int .i64 a1), (.slice a2 na2 ca2)])), (9, (.tuple #[(vA [(.int .i64 a1), (.slice a2 na2 ca2)]), (vI 1)]))] (wpF_step (op_new (some 7) (Instr.alloc 62 true (.tuple #[])) (vP w2.heap.size 0) ([(vI 0), (.slice none 0 0)]) 62 ?_))
  intro w3 hBw3 hEw3
  have hzw3 := hEw3.size; have hlw3 := hBw3.lt
  refine wpF_step (op_store 62 w2.heap.size 0 62 (vA [(.int .i64 a1), (.slice a2 na2 ca2)]) ([(vI 0), (.slice none 0 0)]) ([(.int .i64 a1), (.slice a2 na2 ca2)]) hBw3 (by kernel_rfl) (by first | decide | (simp; done) | (simp; omega)) (by simp [Value.oneCell']) ?_)
  intro w4 hBw4 hCw4
  have hzw4 := hCw4.size
  rw [setFrom_all _ _ (by kernel_rfl)] at hBw4
  refine wpF_run 1 [(8, (vI 1))] (wpF_end (then_code (wpC_seq (wpC_region (wpF_run 2 [(16, vT), (15, (vI 1))] (wpF_end (then_code (wpC_true (wpC_seq ?_)))))))))
  refine wpC_region (wpF_run 2 [(18, (vI 1)), (17, (vA [(vI 0), (vI 0)]))] ?_)
  have hK1 := (((((hBw1.ext hEw2)).ext hEw3)).chg hCw4 (fun hs => by have h : _ = _ := hs; omega))
  refine wpF_step (op_store 45 w.heap.size 0 45 (vA [(vI 0), (vI 0)]) ([(vI 0), (vI 0)]) ([(vI 0), (vI 0)]) hK1 (by kernel_rfl) (by first | decide | (simp; done) | (simp; omega)) (by simp [Value.oneCell']) ?_)
  have hK2 := (((((hBw1.ext hEw2)).ext hEw3)).chg hCw4 (fun hs => by have h : _ = _ := hs; omega))
  intro w5 hBw5 hCw5
  have hzw5 := hCw5.size
  rw [setFrom_all _ _ (by kernel_rfl)] at hBw5
  refine wpF_run 2 [(6, (vI 1)), (5, (vI 0))] (wpF_end (then_code (wpC_ret (then_ret (body_ret3 (show resVal Try.prog 24 _ _ (.cell 4 45) (vA [(vI 0), (vI 0)]) from ⟨⟨w.heap.size, 0, none⟩, (by kernel_rfl), run_loadVar_agg (T := 45) (vs := [(vI 0), (vI 0)]) (hBw5).all (by kernel_rfl)⟩) (show resVal Try.prog 24 _ _ (.tmp 5) (vI 0) by (show _ = _; kernel_rfl)) (show resVal Try.prog 24 _ _ (.tmp 6) (vI 1) by (show _ = _; kernel_rfl)) ?_)))))
  have hX1 : Ext w w5 := (Ext.own (Ext.own ((hEw1.trans hEw2).trans hEw3) hCw4 (by omega)) hCw5 (by omega))
  exact ⟨rfl, hX1⟩

theorem c_Blocks (n : Nat) (l : Nat) (j : Nat)  (w : World) (hp0 : 1 ≤ n) (hp1 : n ≤ 4096) (hp2 : l ≤ hgt n) (hp3 : j < cnt n l) :
    Calls Try.prog 28 #[(vI n), (vA [(vI l), (vI j)])] w (Ret fun r w' => r = (.tuple #[(vI (j * wid l)), (vI (min n ((j + 1) * wid l))), (vI 0)]) ∧ Ext w w') := by
  refine calls_of (n := 37) (σ := [(0, (vI n)), (1, (vA [(vI l), (vI j)]))]) Try.func28 rfl ?_
  have h5 := hgt_le n
  have hcn := cnt_n n l
  have hun := und_n n l
  have hlc := lt_cnt.1 hp3
  refine wpC_seq (wpC_region (wpF_step (op_new (some 3) (Instr.box 45 (vA [(vI l), (vI j)])) (vP w.heap.size 0) ([(vI l), (vI j)]) 45 ?_)))
  intro w1 hBw1 hEw1
  have hzw1 := hEw1.size; have hlw1 := hBw1.lt
  refine wpF_run 3 [(6, (vI 0)), (5, (vI 0)), (4, (vI 0))] (wpF_end (then_code (wpC_seq (wpC_seq (wpC_region (wpF_run 1 [(11, (vI n))] (wpF_step (op_v (some 12) (Instr.loadAt 45 (vP w.heap.size 0)) (vA [(vI l), (vI j)]) (rn_lda (vs := [(vI l), (vI j)]) (hBw1.all)) ?_))))))))
  refine wpF_step (op_call (some 13) (c_at n l j _ (by omega) (by omega) (by omega) (by omega)) ?_)
  rintro _ w2 ⟨a1, ca1, rfl, hFz1_0, hEw2⟩
  have hzw2 := hEw2.size
  have hlea1 := hFz1_0.le
  refine wpF_run 3 [(15, (vI 0)), (14, (vA [(vI n), (.slice a1 (hgt n + 1) ca1)])), (10, (.tuple #[(vA [(vI n), (.slice a1 (hgt n + 1) ca1)]), (vI 0)]))] (wpF_step (op_new (some 7) (Instr.alloc 62 true (.tuple #[])) (vP w2.heap.size 0) ([(vI 0), (.slice none 0 0)]) 62 ?_))
  intro w3 hBw3 hEw3
  have hzw3 := hEw3.size; have hlw3 := hBw3.lt
  refine wpF_step (op_store 62 w2.heap.size 0 62 (vA [(vI n), (.slice a1 (hgt n + 1) ca1)]) ([(vI 0), (.slice none 0 0)]) ([(vI n), (.slice a1 (hgt n + 1) ca1)]) hBw3 (by kernel_rfl) (by first | decide | (simp; done) | (simp; omega)) (by simp [Value.oneCell']) ?_)
  intro w4 hBw4 hCw4
  have hzw4 := hCw4.size
  rw [setFrom_all _ _ (by kernel_rfl)] at hBw4
  refine wpF_run 1 [(8, (vI 0))] (wpF_end (then_code (wpC_seq (wpC_region (wpF_run 2 [(17, vF), (16, (vI 0))] (wpF_end (then_code (wpC_false (wpC_skip ?_)))))))))
  refine then_code (wpC_seq (wpC_region (wpF_run 1 [(9, (vI 4))] (wpF_end (then_code (wpC_seq (wpC_seq (wpC_region (wpF_run 1 [(19, (vP w.heap.size 0))] ?_)))))))))
  have hK1 := (((((hBw1.ext hEw2)).ext hEw3)).chg hCw4 (fun hs => by have h : _ = _ := hs; omega))
  refine wpF_step (op_v (some 20) (Instr.loadAt 3 (vP w.heap.size 0)) (vI l) (rn_ld (hK1.cell rfl)) ?_)
  refine wpF_run 1 [(21, (vI 0))] (wpF_end (then_code (wpC_block (wpC_loop (X := Nat) (fun i => [(9, (vI (wid i))), (21, (vI i))]) [22, 23, 24, 25] (fun i w5 => w4 = w5 ∧ i ≤ l) (fun i => l - i) 0 (by kernel_rfl) ⟨rfl, by omega⟩ ?_))))
  rintro i dw5 w5 ⟨rfl, hi⟩
  have hwi := wid_le (l := i) (by omega)
  refine wpC_seq (wpC_region (wpF_step (op_split (some 22) (decide (((i : Nat) : Int) < ((l : Nat) : Int))) (fun hc22 => ?_) (fun hc22 => ?_))))
  · replace hc22 : i < l := by have := of_d_t hc22; omega
    refine wpF_end (then_code (wpC_seq (wpC_true (wpC_skip (then_code (wpC_seq (wpC_block (wpC_region (wpF_run 1 [(23, (vI (wid i)))] ?_)))))))))
    refine wpF_step (op_in (some 24) .i64 (IntKind.i64.wrap (((wid i : Nat) : Int) * ((4 : Nat) : Int))) (wid (i + 1)) (wrapS (by rw [wid]; omega) (by omega) (by have := wid_le (l := i + 1) (by omega); omega)) ?_)
    refine wpF_run 1 [(9, (vI (wid (i + 1))))] (wpF_end (inBlock_normal (then_code (wpC_region (wpF_step (op_in (some 25) .i64 (IntKind.i64.wrap (((i : Nat) : Int) + ((1 : Nat) : Int))) (i + 1) (wrapS (by omega) (by omega) (by omega)) ?_))))))
    refine wpF_run 1 [(21, (vI (i + 1)))] (wpF_end (then_normal (endR_mk (i + 1) ?_ ?_)))
    · exact ⟨rfl, by omega⟩
    · first | omega | (dsimp only; omega)
  · replace hc22 : ¬ (i < l) := by have := of_d_f hc22; omega
    obtain rfl : l = i := by omega
    have hjw := Nat.mul_le_mul (show j + 1 ≤ 4097 by omega) hwi
    have hjw2 := Nat.mul_le_mul (show j ≤ 4096 by omega) hwi
    refine wpF_end (then_code (wpC_seq (wpC_false (wpC_exit (then_exit (then_exit (inBlock_exit (then_code (wpC_seq ?_)))))))))
    refine wpC_drawM (Ext w4.drew) 14 [(27, 8, 0), (28, 67108864, 1), (29, 512, 0), (30, 402653184, 6), (31, 1, 0), (32, 8, 0), (33, 2147483648, 32), (34, 4294967296, 64), (35, 512, 0), (36, 25769803776, 384), (37, 35433480192, 528), (5, 536870912, 15), (6, 68719476736, 4095), (7, 0, 8191)] (fun hT672 => ?_)
    have hEw6 : Ext w4 w4.drew := Ext.drew w4
    generalize w4.drew = w6 at hEw6 ⊢
    have hzw6 := hEw6.size
    refine anyM_run hT672 [(0, 26, (vP w.heap.size 1))] 1 1 (anyM_take hT672 1 3 (some 27) (vI j) (yld_val (Instr.loadAt 3 (vP w.heap.size 1)) (fun w' hC => rn_ld (((hK1.ext hEw6).ext hC).cell rfl))) (anyM_run hT672 [(2, 28, (vI (wid l)))] 1 7 (anyM_take hT672 3 15 (some 29) (vI (j * wid l)) (yld_in .i64 (IntKind.i64.wrap (((j : Nat) : Int) * ((wid l : Nat) : Int))) (wrapS (by simp) (by omega) (by omega))) (anyM_run hT672 [(4, 30, (vI n)), (5, 31, (vP w.heap.size 1))] 2 63 (anyM_take hT672 6 127 (some 32) (vI j) (yld_val (Instr.loadAt 3 (vP w.heap.size 1)) (fun w' hC => rn_ld (((hK1.ext hEw6).ext hC).cell rfl))) (anyM_take hT672 7 255 (some 33) (vI (j + 1)) (yld_in .i64 (IntKind.i64.wrap (((j : Nat) : Int) + ((1 : Nat) : Int))) (wrapS (by omega) (by omega) (by omega))) (anyM_run hT672 [(8, 34, (vI (wid l)))] 1 511 (anyM_take hT672 9 1023 (some 35) (vI ((j + 1) * wid l)) (yld_in .i64 (IntKind.i64.wrap (((j + 1 : Nat) : Int) * ((wid l : Nat) : Int))) (wrapS (by simp) (by omega) (by omega))) (anyM_take hT672 10 2047 (some 36) (vI (min n ((j + 1) * wid l))) (yld_eqv (.int .i64 (if (((j + 1) * wid l : Nat) : Int) < ((n : Nat) : Int) then (((j + 1) * wid l : Nat) : Int) else ((n : Nat) : Int))) (congrArg _ (minN _ _))) ?_)))))))))
    refine anyM_run hT672 [(11, 4, (vI (j * wid l))), (12, 5, (vI (min n ((j + 1) * wid l)))), (13, 6, (vI 0))] 3 16383 (anyM_done (then_code (wpC_ret (body_rets (.tuple #[(vI (j * wid l)), (vI (min n ((j + 1) * wid l))), (vI 0)]) ?_))))
    have hX1 : Ext w w6 := ((Ext.own ((hEw1.trans hEw2).trans hEw3) hCw4 (by omega)).trans hEw6)
    exact ⟨rfl, hX1⟩

theorem c_BlocksBad (n : Int) (l : Int) (j : Int)  (w : World) (hp0 : ¬ ((1 ≤ n ∧ n ≤ 4096) ∧ (0 ≤ l ∧ l ≤ hgt n.toNat) ∧ (0 ≤ j ∧ j < cnt n.toNat l.toNat))) :
    Calls Try.prog 28 #[(.int .i64 n), (vA [(.int .i64 l), (.int .i64 j)])] w (Ret fun r w' => r = (.tuple #[(vI 0), (vI 0), (vI 1)]) ∧ Ext w w') := by
  refine calls_of (n := 37) (σ := [(0, (.int .i64 n)), (1, (vA [(.int .i64 l), (.int .i64 j)]))]) Try.func28 rfl ?_
  refine wpC_seq (wpC_region (wpF_step (op_new (some 3) (Instr.box 45 (vA [(.int .i64 l), (.int .i64 j)])) (vP w.heap.size 0) ([(.int .i64 l), (.int .i64 j)]) 45 ?_)))
  intro w1 hBw1 hEw1
  have hzw1 := hEw1.size; have hlw1 := hBw1.lt
  refine wpF_run 3 [(6, (vI 0)), (5, (vI 0)), (4, (vI 0))] (wpF_end (then_code (wpC_seq (wpC_seq (wpC_region (wpF_run 1 [(11, (.int .i64 n))] (wpF_step (op_v (some 12) (Instr.loadAt 45 (vP w.heap.size 0)) (vA [(.int .i64 l), (.int .i64 j)]) (rn_lda (vs := [(.int .i64 l), (.int .i64 j)]) (hBw1.all)) ?_))))))))
  refine wpF_step (op_call (some 13) (c_atBad n l j _ (by omega)) ?_)
  rintro _ w2 ⟨a1, a2, na2, ca2, rfl, hEw2⟩
  have hzw2 := hEw2.size
  refine wpF_run 3 [(15, (vI 1)), (14, (vA [(.int .i64 a1), (.slice a2 na2 ca2)])), (10, (.tuple #[(vA [(.int .i64 a1), (.slice a2 na2 ca2)]), (vI 1)]))] (wpF_step (op_new (some 7) (Instr.alloc 62 true (.tuple #[])) (vP w2.heap.size 0) ([(vI 0), (.slice none 0 0)]) 62 ?_))
  intro w3 hBw3 hEw3
  have hzw3 := hEw3.size; have hlw3 := hBw3.lt
  refine wpF_step (op_store 62 w2.heap.size 0 62 (vA [(.int .i64 a1), (.slice a2 na2 ca2)]) ([(vI 0), (.slice none 0 0)]) ([(.int .i64 a1), (.slice a2 na2 ca2)]) hBw3 (by kernel_rfl) (by first | decide | (simp; done) | (simp; omega)) (by simp [Value.oneCell']) ?_)
  intro w4 hBw4 hCw4
  have hzw4 := hCw4.size
  rw [setFrom_all _ _ (by kernel_rfl)] at hBw4
  refine wpF_run 1 [(8, (vI 1))] (wpF_end (then_code (wpC_seq (wpC_region (wpF_run 2 [(17, vT), (16, (vI 1))] (wpF_end (then_code (wpC_true (wpC_seq ?_)))))))))
  refine wpC_region (wpF_run 4 [(6, (vI 1)), (5, (vI 0)), (4, (vI 0)), (18, (vI 1))] (wpF_end (then_code (wpC_ret (then_ret (body_rets (.tuple #[(vI 0), (vI 0), (vI 1)]) ?_))))))
  have hX1 : Ext w w4 := (Ext.own ((hEw1.trans hEw2).trans hEw3) hCw4 (by omega))
  exact ⟨rfl, hX1⟩

theorem c_Data0 (n : Nat) (i : Nat)  (w : World) (hp0 : 1 ≤ n) (hp1 : n ≤ 4096) (hp2 : i < n) :
    Calls Try.prog 13 #[(vI n), (vI i), (vI 0)] w (Ret fun r w' => r = (.tuple #[(vI (2 * i + 0)), (vI 0)]) ∧ Ext w w') := by
  refine calls_of (n := 33) (σ := [(0, (vI n)), (1, (vI i)), (2, (vI 0))]) Try.func13 rfl ?_
  refine wpC_seq (wpC_region (wpF_run 2 [(7, (vI 0)), (6, (vI 0))] (wpF_end (then_code (wpC_seq (wpC_region (wpF_run 2 [(12, (vI i)), (11, (vI n))] (wpF_step (op_call (some 13) (c_block n i _ (by omega) (by omega) (by omega)) ?_)))))))))
  rintro _ w1 ⟨a1, ca1, rfl, hFz1_0, hEw1⟩
  have hzw1 := hEw1.size
  have hlea1 := hFz1_0.le
  refine wpF_run 3 [(15, (vI 0)), (14, (vA [(vI n), (.slice a1 (hgt n + 1) ca1)])), (10, (.tuple #[(vA [(vI n), (.slice a1 (hgt n + 1) ca1)]), (vI 0)]))] (wpF_step (op_new (some 8) (Instr.alloc 62 true (.tuple #[])) (vP w1.heap.size 0) ([(vI 0), (.slice none 0 0)]) 62 ?_))
  intro w2 hBw2 hEw2
  have hzw2 := hEw2.size; have hlw2 := hBw2.lt
  refine wpF_step (op_store 62 w1.heap.size 0 62 (vA [(vI n), (.slice a1 (hgt n + 1) ca1)]) ([(vI 0), (.slice none 0 0)]) ([(vI n), (.slice a1 (hgt n + 1) ca1)]) hBw2 (by kernel_rfl) (by first | decide | (simp; done) | (simp; omega)) (by simp [Value.oneCell']) ?_)
  intro w3 hBw3 hCw3
  have hzw3 := hCw3.size
  rw [setFrom_all _ _ (by kernel_rfl)] at hBw3
  refine wpF_run 1 [(9, (vI 0))] (wpF_end (then_code (wpC_seq (wpC_seq (wpC_region (wpF_run 1 [(16, (vI 0))] (wpF_step (op_b (some 17) (((0 : Nat) : Int) == ((0 : Nat) : Int)) true (cmpEqT (by omega)) ?_))))))))
  refine wpF_run 8 [(25, vF), (24, undef), (23, undef), (22, vF), (21, vF), (20, vF), (19, (vI 0)), (18, vT)] (wpF_end (then_code (wpC_false (wpC_skip (then_code (wpC_seq (wpC_seq (wpC_region (wpF_run 2 [(27, vF), (26, (vI 0))] ?_)))))))))
  refine wpF_end (then_code (wpC_false (wpC_skip (then_code (wpC_seq (wpC_region (wpF_run 1 [(29, (vI i))] (wpF_step (op_in (some 30) .i64 (IntKind.i64.wrap (((2 : Nat) : Int) * ((i : Nat) : Int))) (2 * i) (wrapS (by omega) (by omega) (by omega)) ?_)))))))))
  refine wpF_run 1 [(31, (vI 0))] (wpF_step (op_in (some 32) .i64 (IntKind.i64.wrap (((2 * i : Nat) : Int) + ((0 : Nat) : Int))) (2 * i + 0) (wrapS (by omega) (by omega) (by omega)) ?_))
  exact wpF_run 2 [(7, (vI 0)), (6, (vI (2 * i + 0)))] (wpF_end (then_code (wpC_ret (body_rets (.tuple #[(vI (2 * i + 0)), (vI 0)]) (⟨rfl, (Ext.own (hEw1.trans hEw2) hCw3 (by omega))⟩)))))

theorem c_Data1 (n : Nat) (i : Nat)  (w : World) (hp0 : 1 ≤ n) (hp1 : n ≤ 4096) (hp2 : i < n) :
    Calls Try.prog 13 #[(vI n), (vI i), (vI 1)] w (Ret fun r w' => r = (.tuple #[(vI (2 * i + 1)), (vI 0)]) ∧ Ext w w') := by
  refine calls_of (n := 33) (σ := [(0, (vI n)), (1, (vI i)), (2, (vI 1))]) Try.func13 rfl ?_
  refine wpC_seq (wpC_region (wpF_run 2 [(7, (vI 0)), (6, (vI 0))] (wpF_end (then_code (wpC_seq (wpC_region (wpF_run 2 [(12, (vI i)), (11, (vI n))] (wpF_step (op_call (some 13) (c_block n i _ (by omega) (by omega) (by omega)) ?_)))))))))
  rintro _ w1 ⟨a1, ca1, rfl, hFz1_0, hEw1⟩
  have hzw1 := hEw1.size
  have hlea1 := hFz1_0.le
  refine wpF_run 3 [(15, (vI 0)), (14, (vA [(vI n), (.slice a1 (hgt n + 1) ca1)])), (10, (.tuple #[(vA [(vI n), (.slice a1 (hgt n + 1) ca1)]), (vI 0)]))] (wpF_step (op_new (some 8) (Instr.alloc 62 true (.tuple #[])) (vP w1.heap.size 0) ([(vI 0), (.slice none 0 0)]) 62 ?_))
  intro w2 hBw2 hEw2
  have hzw2 := hEw2.size; have hlw2 := hBw2.lt
  refine wpF_step (op_store 62 w1.heap.size 0 62 (vA [(vI n), (.slice a1 (hgt n + 1) ca1)]) ([(vI 0), (.slice none 0 0)]) ([(vI n), (.slice a1 (hgt n + 1) ca1)]) hBw2 (by kernel_rfl) (by first | decide | (simp; done) | (simp; omega)) (by simp [Value.oneCell']) ?_)
  intro w3 hBw3 hCw3
  have hzw3 := hCw3.size
  rw [setFrom_all _ _ (by kernel_rfl)] at hBw3
  refine wpF_run 1 [(9, (vI 0))] (wpF_end (then_code (wpC_seq (wpC_seq (wpC_region (wpF_run 1 [(16, (vI 0))] (wpF_step (op_b (some 17) (((0 : Nat) : Int) == ((0 : Nat) : Int)) true (cmpEqT (by omega)) ?_))))))))
  refine wpF_run 8 [(25, vF), (24, vF), (23, (vI 1)), (22, vT), (21, vT), (20, vT), (19, (vI 1)), (18, vT)] (wpF_end (then_code (wpC_false (wpC_skip (then_code (wpC_seq (wpC_seq (wpC_region (wpF_run 2 [(27, vF), (26, (vI 0))] ?_)))))))))
  refine wpF_end (then_code (wpC_false (wpC_skip (then_code (wpC_seq (wpC_region (wpF_run 1 [(29, (vI i))] (wpF_step (op_in (some 30) .i64 (IntKind.i64.wrap (((2 : Nat) : Int) * ((i : Nat) : Int))) (2 * i) (wrapS (by omega) (by omega) (by omega)) ?_)))))))))
  refine wpF_run 1 [(31, (vI 1))] (wpF_step (op_in (some 32) .i64 (IntKind.i64.wrap (((2 * i : Nat) : Int) + ((1 : Nat) : Int))) (2 * i + 1) (wrapS (by omega) (by omega) (by omega)) ?_))
  exact wpF_run 2 [(7, (vI 0)), (6, (vI (2 * i + 1)))] (wpF_end (then_code (wpC_ret (body_rets (.tuple #[(vI (2 * i + 1)), (vI 0)]) (⟨rfl, (Ext.own (hEw1.trans hEw2) hCw3 (by omega))⟩)))))

theorem c_Data (n : Nat) (i : Nat) (s : Nat)  (w : World) (hp0 : 1 ≤ n) (hp1 : n ≤ 4096) (hp2 : i < n) (hp3 : s < 2) :
    Calls Try.prog 13 #[(vI n), (vI i), (vI s)] w (Ret fun r w' => r = (.tuple #[(vI (2 * i + s)), (vI 0)]) ∧ Ext w w') := by
  have hs : s = 0 ∨ s = 1 := by omega
  rcases hs with rfl | rfl
  · exact c_Data0 n i w hp0 hp1 hp2
  · exact c_Data1 n i w hp0 hp1 hp2

theorem c_DataSlot (n : Nat) (i : Nat) (s : Int)  (w : World) (hp0 : 1 ≤ n) (hp1 : n ≤ 4096) (hp2 : i < n) (hp3 : s ≠ 0) (hp4 : s ≠ 1) :
    Calls Try.prog 13 #[(vI n), (vI i), (.int .i64 s)] w (Ret fun r w' => r = (.tuple #[(vI 0), (vI 1)]) ∧ Ext w w') := by
  refine calls_of (n := 33) (σ := [(0, (vI n)), (1, (vI i)), (2, (.int .i64 s))]) Try.func13 rfl ?_
  refine wpC_seq (wpC_region (wpF_run 2 [(7, (vI 0)), (6, (vI 0))] (wpF_end (then_code (wpC_seq (wpC_region (wpF_run 2 [(12, (vI i)), (11, (vI n))] (wpF_step (op_call (some 13) (c_block n i _ (by omega) (by omega) (by omega)) ?_)))))))))
  rintro _ w1 ⟨a1, ca1, rfl, hFz1_0, hEw1⟩
  have hzw1 := hEw1.size
  have hlea1 := hFz1_0.le
  refine wpF_run 3 [(15, (vI 0)), (14, (vA [(vI n), (.slice a1 (hgt n + 1) ca1)])), (10, (.tuple #[(vA [(vI n), (.slice a1 (hgt n + 1) ca1)]), (vI 0)]))] (wpF_step (op_new (some 8) (Instr.alloc 62 true (.tuple #[])) (vP w1.heap.size 0) ([(vI 0), (.slice none 0 0)]) 62 ?_))
  intro w2 hBw2 hEw2
  have hzw2 := hEw2.size; have hlw2 := hBw2.lt
  refine wpF_step (op_store 62 w1.heap.size 0 62 (vA [(vI n), (.slice a1 (hgt n + 1) ca1)]) ([(vI 0), (.slice none 0 0)]) ([(vI n), (.slice a1 (hgt n + 1) ca1)]) hBw2 (by kernel_rfl) (by first | decide | (simp; done) | (simp; omega)) (by simp [Value.oneCell']) ?_)
  intro w3 hBw3 hCw3
  have hzw3 := hCw3.size
  rw [setFrom_all _ _ (by kernel_rfl)] at hBw3
  refine wpF_run 1 [(9, (vI 0))] (wpF_end (then_code (wpC_seq (wpC_seq (wpC_region (wpF_run 1 [(16, (vI 0))] (wpF_step (op_b (some 17) (((0 : Nat) : Int) == ((0 : Nat) : Int)) true (cmpEqT (by omega)) ?_))))))))
  refine wpF_run 2 [(19, (.int .i64 s)), (18, vT)] (wpF_step (op_b (some 20) (s != ((0 : Nat) : Int)) true (cmpNeT (by omega)) ?_))
  refine wpF_run 3 [(23, (.int .i64 s)), (22, vT), (21, vT)] (wpF_step (op_b (some 24) (s != ((1 : Nat) : Int)) true (cmpNeT (by omega)) ?_))
  refine wpF_run 1 [(25, vT)] (wpF_end (then_code (wpC_true (wpC_region (wpF_run 1 [(9, (vI 1))] (wpF_end (then_code (wpC_seq (wpC_seq ?_)))))))))
  refine wpC_region (wpF_run 2 [(27, vT), (26, (vI 1))] (wpF_end (then_code (wpC_true (wpC_seq (wpC_region (wpF_run 3 [(7, (vI 1)), (6, (vI 0)), (28, (vI 1))] (wpF_end (then_code ?_)))))))))
  exact wpC_ret (then_ret (body_rets (.tuple #[(vI 0), (vI 1)]) (⟨rfl, (Ext.own (hEw1.trans hEw2) hCw3 (by omega))⟩)))

theorem c_DataBad (n : Int) (i : Int) (s : Int)  (w : World) (hp0 : ¬ ((1 ≤ n ∧ n ≤ 4096) ∧ (0 ≤ i ∧ i < n))) :
    Calls Try.prog 13 #[(.int .i64 n), (.int .i64 i), (.int .i64 s)] w (Ret fun r w' => r = (.tuple #[(vI 0), (vI 1)]) ∧ Ext w w') := by
  refine calls_of (n := 33) (σ := [(0, (.int .i64 n)), (1, (.int .i64 i)), (2, (.int .i64 s))]) Try.func13 rfl ?_
  refine wpC_seq (wpC_region (wpF_run 2 [(7, (vI 0)), (6, (vI 0))] (wpF_end (then_code (wpC_seq (wpC_region (wpF_run 2 [(12, (.int .i64 i)), (11, (.int .i64 n))] (wpF_step (op_call (some 13) (c_blockBad n i _ (by omega)) ?_)))))))))
  rintro _ w1 ⟨a1, a2, na2, ca2, rfl, hEw1⟩
  have hzw1 := hEw1.size
  refine wpF_run 3 [(15, (vI 1)), (14, (vA [(.int .i64 a1), (.slice a2 na2 ca2)])), (10, (.tuple #[(vA [(.int .i64 a1), (.slice a2 na2 ca2)]), (vI 1)]))] (wpF_step (op_new (some 8) (Instr.alloc 62 true (.tuple #[])) (vP w1.heap.size 0) ([(vI 0), (.slice none 0 0)]) 62 ?_))
  intro w2 hBw2 hEw2
  have hzw2 := hEw2.size; have hlw2 := hBw2.lt
  refine wpF_step (op_store 62 w1.heap.size 0 62 (vA [(.int .i64 a1), (.slice a2 na2 ca2)]) ([(vI 0), (.slice none 0 0)]) ([(.int .i64 a1), (.slice a2 na2 ca2)]) hBw2 (by kernel_rfl) (by first | decide | (simp; done) | (simp; omega)) (by simp [Value.oneCell']) ?_)
  intro w3 hBw3 hCw3
  have hzw3 := hCw3.size
  rw [setFrom_all _ _ (by kernel_rfl)] at hBw3
  refine wpF_run 1 [(9, (vI 1))] (wpF_end (then_code (wpC_seq (wpC_seq (wpC_region (wpF_run 1 [(16, (vI 1))] (wpF_step (op_b (some 17) (((1 : Nat) : Int) == ((0 : Nat) : Int)) false (cmpEqF (by omega)) ?_))))))))
  refine wpF_run 8 [(25, vF), (24, undef), (23, undef), (22, vF), (21, vF), (20, undef), (19, undef), (18, vF)] (wpF_end (then_code (wpC_false (wpC_skip (then_code (wpC_seq (wpC_seq (wpC_region (wpF_run 2 [(27, vT), (26, (vI 1))] ?_)))))))))
  refine wpF_end (then_code (wpC_true (wpC_seq (wpC_region (wpF_run 3 [(7, (vI 1)), (6, (vI 0)), (28, (vI 1))] (wpF_end (then_code (wpC_ret (then_ret ?_)))))))))
  exact body_rets (.tuple #[(vI 0), (vI 1)]) (⟨rfl, (Ext.own (hEw1.trans hEw2) hCw3 (by omega))⟩)

theorem c_Node0 (n : Nat) (l : Nat) (j : Nat)  (w : World) (hp0 : 1 ≤ n) (hp1 : n ≤ 4096) (hp2 : l ≤ hgt n) (hp3 : j < cnt n l) :
    Calls Try.prog 15 #[(vI n), (vI l), (vI j), (vI 0)] w (Ret fun r w' => r = (.tuple #[(vI (bas n l + 2 * j + 0)), (vI 0)]) ∧ Ext w w') := by
  refine calls_of (n := 41) (σ := [(0, (vI n)), (1, (vI l)), (2, (vI j)), (3, (vI 0))]) Try.func15 rfl ?_
  have h5 := hgt_le n
  have hcn := cnt_n n l
  have hun := und_n n l
  have hlc := lt_cnt.1 hp3
  have hbs := bas_small (l := l) hp1 (by omega)
  refine wpC_seq (wpC_region (wpF_run 2 [(9, (vI 0)), (8, (vI 0))] (wpF_end (then_code (wpC_seq (wpC_region (wpF_run 4 [(16, (vA [(vI l), (vI j)])), (15, (vI j)), (14, (vI l)), (13, (vI n))] (wpF_step (op_call (some 17) (c_at n l j _ (by omega) (by omega) (by omega) (by omega)) ?_)))))))))
  rintro _ w1 ⟨a1, ca1, rfl, hFz1_0, hEw1⟩
  have hzw1 := hEw1.size
  have hlea1 := hFz1_0.le
  refine wpF_run 3 [(19, (vI 0)), (18, (vA [(vI n), (.slice a1 (hgt n + 1) ca1)])), (12, (.tuple #[(vA [(vI n), (.slice a1 (hgt n + 1) ca1)]), (vI 0)]))] (wpF_step (op_new (some 10) (Instr.alloc 62 true (.tuple #[])) (vP w1.heap.size 0) ([(vI 0), (.slice none 0 0)]) 62 ?_))
  intro w2 hBw2 hEw2
  have hzw2 := hEw2.size; have hlw2 := hBw2.lt
  refine wpF_step (op_store 62 w1.heap.size 0 62 (vA [(vI n), (.slice a1 (hgt n + 1) ca1)]) ([(vI 0), (.slice none 0 0)]) ([(vI n), (.slice a1 (hgt n + 1) ca1)]) hBw2 (by kernel_rfl) (by first | decide | (simp; done) | (simp; omega)) (by simp [Value.oneCell']) ?_)
  intro w3 hBw3 hCw3
  have hzw3 := hCw3.size
  rw [setFrom_all _ _ (by kernel_rfl)] at hBw3
  refine wpF_run 1 [(11, (vI 0))] (wpF_end (then_code (wpC_seq (wpC_seq (wpC_region (wpF_run 1 [(20, (vI 0))] (wpF_step (op_b (some 21) (((0 : Nat) : Int) == ((0 : Nat) : Int)) true (cmpEqT (by omega)) ?_))))))))
  refine wpF_run 8 [(29, vF), (28, undef), (27, undef), (26, vF), (25, vF), (24, vF), (23, (vI 0)), (22, vT)] (wpF_end (then_code (wpC_false (wpC_skip (then_code (wpC_seq (wpC_seq (wpC_region (wpF_run 2 [(31, vF), (30, (vI 0))] ?_)))))))))
  refine wpF_end (then_code (wpC_false (wpC_skip (then_code (wpC_seq (wpC_region (wpF_step (op_v (some 33) (Instr.loadAt 62 (vP w1.heap.size 0)) (vA [(vI n), (.slice a1 (hgt n + 1) ca1)]) (rn_lda (vs := [(vI n), (.slice a1 (hgt n + 1) ca1)]) (hBw3.all)) ?_))))))))
  refine wpF_run 1 [(34, (vI l))] (wpF_step (op_call (some 35) (c_base n l _ (((hFz1_0.ext hEw2)).chg hCw3 (fun k h1 h2 hs => by have h : k = _ := hs; omega)) (by omega) (by omega)) ?_))
  rintro _ w4 ⟨rfl, hEw4⟩
  have hzw4 := hEw4.size
  refine wpF_run 1 [(36, (vI j))] (wpF_step (op_in (some 37) .i64 (IntKind.i64.wrap (((2 : Nat) : Int) * ((j : Nat) : Int))) (2 * j) (wrapS (by omega) (by omega) (by omega)) ?_))
  refine wpF_step (op_in (some 38) .i64 (IntKind.i64.wrap (((bas n l : Nat) : Int) + ((2 * j : Nat) : Int))) (bas n l + 2 * j) (wrapS (by omega) (by omega) (by omega)) ?_)
  refine wpF_run 1 [(39, (vI 0))] (wpF_step (op_in (some 40) .i64 (IntKind.i64.wrap (((bas n l + 2 * j : Nat) : Int) + ((0 : Nat) : Int))) (bas n l + 2 * j + 0) (wrapS (by omega) (by omega) (by omega)) ?_))
  refine wpF_run 2 [(9, (vI 0)), (8, (vI (bas n l + 2 * j + 0)))] (wpF_end (then_code (wpC_ret (body_rets (.tuple #[(vI (bas n l + 2 * j + 0)), (vI 0)]) ?_))))
  have hX1 : Ext w w4 := ((Ext.own (hEw1.trans hEw2) hCw3 (by omega)).trans hEw4)
  exact ⟨rfl, hX1⟩

theorem c_Node1 (n : Nat) (l : Nat) (j : Nat)  (w : World) (hp0 : 1 ≤ n) (hp1 : n ≤ 4096) (hp2 : l ≤ hgt n) (hp3 : j < cnt n l) :
    Calls Try.prog 15 #[(vI n), (vI l), (vI j), (vI 1)] w (Ret fun r w' => r = (.tuple #[(vI (bas n l + 2 * j + 1)), (vI 0)]) ∧ Ext w w') := by
  refine calls_of (n := 41) (σ := [(0, (vI n)), (1, (vI l)), (2, (vI j)), (3, (vI 1))]) Try.func15 rfl ?_
  have h5 := hgt_le n
  have hcn := cnt_n n l
  have hun := und_n n l
  have hlc := lt_cnt.1 hp3
  have hbs := bas_small (l := l) hp1 (by omega)
  refine wpC_seq (wpC_region (wpF_run 2 [(9, (vI 0)), (8, (vI 0))] (wpF_end (then_code (wpC_seq (wpC_region (wpF_run 4 [(16, (vA [(vI l), (vI j)])), (15, (vI j)), (14, (vI l)), (13, (vI n))] (wpF_step (op_call (some 17) (c_at n l j _ (by omega) (by omega) (by omega) (by omega)) ?_)))))))))
  rintro _ w1 ⟨a1, ca1, rfl, hFz1_0, hEw1⟩
  have hzw1 := hEw1.size
  have hlea1 := hFz1_0.le
  refine wpF_run 3 [(19, (vI 0)), (18, (vA [(vI n), (.slice a1 (hgt n + 1) ca1)])), (12, (.tuple #[(vA [(vI n), (.slice a1 (hgt n + 1) ca1)]), (vI 0)]))] (wpF_step (op_new (some 10) (Instr.alloc 62 true (.tuple #[])) (vP w1.heap.size 0) ([(vI 0), (.slice none 0 0)]) 62 ?_))
  intro w2 hBw2 hEw2
  have hzw2 := hEw2.size; have hlw2 := hBw2.lt
  refine wpF_step (op_store 62 w1.heap.size 0 62 (vA [(vI n), (.slice a1 (hgt n + 1) ca1)]) ([(vI 0), (.slice none 0 0)]) ([(vI n), (.slice a1 (hgt n + 1) ca1)]) hBw2 (by kernel_rfl) (by first | decide | (simp; done) | (simp; omega)) (by simp [Value.oneCell']) ?_)
  intro w3 hBw3 hCw3
  have hzw3 := hCw3.size
  rw [setFrom_all _ _ (by kernel_rfl)] at hBw3
  refine wpF_run 1 [(11, (vI 0))] (wpF_end (then_code (wpC_seq (wpC_seq (wpC_region (wpF_run 1 [(20, (vI 0))] (wpF_step (op_b (some 21) (((0 : Nat) : Int) == ((0 : Nat) : Int)) true (cmpEqT (by omega)) ?_))))))))
  refine wpF_run 8 [(29, vF), (28, vF), (27, (vI 1)), (26, vT), (25, vT), (24, vT), (23, (vI 1)), (22, vT)] (wpF_end (then_code (wpC_false (wpC_skip (then_code (wpC_seq (wpC_seq (wpC_region (wpF_run 2 [(31, vF), (30, (vI 0))] ?_)))))))))
  refine wpF_end (then_code (wpC_false (wpC_skip (then_code (wpC_seq (wpC_region (wpF_step (op_v (some 33) (Instr.loadAt 62 (vP w1.heap.size 0)) (vA [(vI n), (.slice a1 (hgt n + 1) ca1)]) (rn_lda (vs := [(vI n), (.slice a1 (hgt n + 1) ca1)]) (hBw3.all)) ?_))))))))
  refine wpF_run 1 [(34, (vI l))] (wpF_step (op_call (some 35) (c_base n l _ (((hFz1_0.ext hEw2)).chg hCw3 (fun k h1 h2 hs => by have h : k = _ := hs; omega)) (by omega) (by omega)) ?_))
  rintro _ w4 ⟨rfl, hEw4⟩
  have hzw4 := hEw4.size
  refine wpF_run 1 [(36, (vI j))] (wpF_step (op_in (some 37) .i64 (IntKind.i64.wrap (((2 : Nat) : Int) * ((j : Nat) : Int))) (2 * j) (wrapS (by omega) (by omega) (by omega)) ?_))
  refine wpF_step (op_in (some 38) .i64 (IntKind.i64.wrap (((bas n l : Nat) : Int) + ((2 * j : Nat) : Int))) (bas n l + 2 * j) (wrapS (by omega) (by omega) (by omega)) ?_)
  refine wpF_run 1 [(39, (vI 1))] (wpF_step (op_in (some 40) .i64 (IntKind.i64.wrap (((bas n l + 2 * j : Nat) : Int) + ((1 : Nat) : Int))) (bas n l + 2 * j + 1) (wrapS (by omega) (by omega) (by omega)) ?_))
  refine wpF_run 2 [(9, (vI 0)), (8, (vI (bas n l + 2 * j + 1)))] (wpF_end (then_code (wpC_ret (body_rets (.tuple #[(vI (bas n l + 2 * j + 1)), (vI 0)]) ?_))))
  have hX1 : Ext w w4 := ((Ext.own (hEw1.trans hEw2) hCw3 (by omega)).trans hEw4)
  exact ⟨rfl, hX1⟩

theorem c_Node (n : Nat) (l : Nat) (j : Nat) (s : Nat)  (w : World) (hp0 : 1 ≤ n) (hp1 : n ≤ 4096) (hp2 : l ≤ hgt n) (hp3 : j < cnt n l) (hp4 : s < 2) :
    Calls Try.prog 15 #[(vI n), (vI l), (vI j), (vI s)] w (Ret fun r w' => r = (.tuple #[(vI (bas n l + 2 * j + s)), (vI 0)]) ∧ Ext w w') := by
  have hs : s = 0 ∨ s = 1 := by omega
  rcases hs with rfl | rfl
  · exact c_Node0 n l j w hp0 hp1 hp2 hp3
  · exact c_Node1 n l j w hp0 hp1 hp2 hp3

theorem c_NodeSlot (n : Nat) (l : Nat) (j : Nat) (s : Int)  (w : World) (hp0 : 1 ≤ n) (hp1 : n ≤ 4096) (hp2 : l ≤ hgt n) (hp3 : j < cnt n l) (hp4 : s ≠ 0) (hp5 : s ≠ 1) :
    Calls Try.prog 15 #[(vI n), (vI l), (vI j), (.int .i64 s)] w (Ret fun r w' => r = (.tuple #[(vI 0), (vI 1)]) ∧ Ext w w') := by
  refine calls_of (n := 41) (σ := [(0, (vI n)), (1, (vI l)), (2, (vI j)), (3, (.int .i64 s))]) Try.func15 rfl ?_
  refine wpC_seq (wpC_region (wpF_run 2 [(9, (vI 0)), (8, (vI 0))] (wpF_end (then_code (wpC_seq (wpC_region (wpF_run 4 [(16, (vA [(vI l), (vI j)])), (15, (vI j)), (14, (vI l)), (13, (vI n))] (wpF_step (op_call (some 17) (c_at n l j _ (by omega) (by omega) (by omega) (by omega)) ?_)))))))))
  rintro _ w1 ⟨a1, ca1, rfl, hFz1_0, hEw1⟩
  have hzw1 := hEw1.size
  have hlea1 := hFz1_0.le
  refine wpF_run 3 [(19, (vI 0)), (18, (vA [(vI n), (.slice a1 (hgt n + 1) ca1)])), (12, (.tuple #[(vA [(vI n), (.slice a1 (hgt n + 1) ca1)]), (vI 0)]))] (wpF_step (op_new (some 10) (Instr.alloc 62 true (.tuple #[])) (vP w1.heap.size 0) ([(vI 0), (.slice none 0 0)]) 62 ?_))
  intro w2 hBw2 hEw2
  have hzw2 := hEw2.size; have hlw2 := hBw2.lt
  refine wpF_step (op_store 62 w1.heap.size 0 62 (vA [(vI n), (.slice a1 (hgt n + 1) ca1)]) ([(vI 0), (.slice none 0 0)]) ([(vI n), (.slice a1 (hgt n + 1) ca1)]) hBw2 (by kernel_rfl) (by first | decide | (simp; done) | (simp; omega)) (by simp [Value.oneCell']) ?_)
  intro w3 hBw3 hCw3
  have hzw3 := hCw3.size
  rw [setFrom_all _ _ (by kernel_rfl)] at hBw3
  refine wpF_run 1 [(11, (vI 0))] (wpF_end (then_code (wpC_seq (wpC_seq (wpC_region (wpF_run 1 [(20, (vI 0))] (wpF_step (op_b (some 21) (((0 : Nat) : Int) == ((0 : Nat) : Int)) true (cmpEqT (by omega)) ?_))))))))
  refine wpF_run 2 [(23, (.int .i64 s)), (22, vT)] (wpF_step (op_b (some 24) (s != ((0 : Nat) : Int)) true (cmpNeT (by omega)) ?_))
  refine wpF_run 3 [(27, (.int .i64 s)), (26, vT), (25, vT)] (wpF_step (op_b (some 28) (s != ((1 : Nat) : Int)) true (cmpNeT (by omega)) ?_))
  refine wpF_run 1 [(29, vT)] (wpF_end (then_code (wpC_true (wpC_region (wpF_run 1 [(11, (vI 1))] (wpF_end (then_code (wpC_seq (wpC_seq ?_)))))))))
  refine wpC_region (wpF_run 2 [(31, vT), (30, (vI 1))] (wpF_end (then_code (wpC_true (wpC_seq (wpC_region (wpF_run 3 [(9, (vI 1)), (8, (vI 0)), (32, (vI 1))] (wpF_end (then_code ?_)))))))))
  exact wpC_ret (then_ret (body_rets (.tuple #[(vI 0), (vI 1)]) (⟨rfl, (Ext.own (hEw1.trans hEw2) hCw3 (by omega))⟩)))

theorem c_NodeBad (n : Int) (l : Int) (j : Int) (s : Int)  (w : World) (hp0 : ¬ ((1 ≤ n ∧ n ≤ 4096) ∧ (0 ≤ l ∧ l ≤ hgt n.toNat) ∧ (0 ≤ j ∧ j < cnt n.toNat l.toNat))) :
    Calls Try.prog 15 #[(.int .i64 n), (.int .i64 l), (.int .i64 j), (.int .i64 s)] w (Ret fun r w' => r = (.tuple #[(vI 0), (vI 1)]) ∧ Ext w w') := by
  refine calls_of (n := 41) (σ := [(0, (.int .i64 n)), (1, (.int .i64 l)), (2, (.int .i64 j)), (3, (.int .i64 s))]) Try.func15 rfl ?_
  refine wpC_seq (wpC_region (wpF_run 2 [(9, (vI 0)), (8, (vI 0))] (wpF_end (then_code (wpC_seq (wpC_region (wpF_run 4 [(16, (vA [(.int .i64 l), (.int .i64 j)])), (15, (.int .i64 j)), (14, (.int .i64 l)), (13, (.int .i64 n))] (wpF_step (op_call (some 17) (c_atBad n l j _ (by omega)) ?_)))))))))
  rintro _ w1 ⟨a1, a2, na2, ca2, rfl, hEw1⟩
  have hzw1 := hEw1.size
  refine wpF_run 3 [(19, (vI 1)), (18, (vA [(.int .i64 a1), (.slice a2 na2 ca2)])), (12, (.tuple #[(vA [(.int .i64 a1), (.slice a2 na2 ca2)]), (vI 1)]))] (wpF_step (op_new (some 10) (Instr.alloc 62 true (.tuple #[])) (vP w1.heap.size 0) ([(vI 0), (.slice none 0 0)]) 62 ?_))
  intro w2 hBw2 hEw2
  have hzw2 := hEw2.size; have hlw2 := hBw2.lt
  refine wpF_step (op_store 62 w1.heap.size 0 62 (vA [(.int .i64 a1), (.slice a2 na2 ca2)]) ([(vI 0), (.slice none 0 0)]) ([(.int .i64 a1), (.slice a2 na2 ca2)]) hBw2 (by kernel_rfl) (by first | decide | (simp; done) | (simp; omega)) (by simp [Value.oneCell']) ?_)
  intro w3 hBw3 hCw3
  have hzw3 := hCw3.size
  rw [setFrom_all _ _ (by kernel_rfl)] at hBw3
  refine wpF_run 1 [(11, (vI 1))] (wpF_end (then_code (wpC_seq (wpC_seq (wpC_region (wpF_run 1 [(20, (vI 1))] (wpF_step (op_b (some 21) (((1 : Nat) : Int) == ((0 : Nat) : Int)) false (cmpEqF (by omega)) ?_))))))))
  refine wpF_run 8 [(29, vF), (28, undef), (27, undef), (26, vF), (25, vF), (24, undef), (23, undef), (22, vF)] (wpF_end (then_code (wpC_false (wpC_skip (then_code (wpC_seq (wpC_seq (wpC_region (wpF_run 2 [(31, vT), (30, (vI 1))] ?_)))))))))
  refine wpF_end (then_code (wpC_true (wpC_seq (wpC_region (wpF_run 3 [(9, (vI 1)), (8, (vI 0)), (32, (vI 1))] (wpF_end (then_code (wpC_ret (then_ret ?_)))))))))
  exact body_rets (.tuple #[(vI 0), (vI 1)]) (⟨rfl, (Ext.own (hEw1.trans hEw2) hCw3 (by omega))⟩)

theorem c_Sectors (n : Nat)  (w : World) (hp0 : 1 ≤ n) (hp1 : n ≤ 4096) :
    Calls Try.prog 10 #[(vI n)] w (Ret fun r w' => r = (.tuple #[(vI (bas n (hgt n + 1))), (vI 0)]) ∧ Ext w w') := by
  refine calls_of (n := 19) (σ := [(0, (vI n))]) Try.func10 rfl ?_
  have h5 := hgt_le n
  refine wpC_seq (wpC_region (wpF_run 2 [(3, (vI 0)), (2, (vI 0))] (wpF_end (then_code (wpC_seq (wpC_region (wpF_run 1 [(7, (vI n))] (wpF_step (op_call (some 8) (c_of n _ (by omega) (by omega)) ?_)))))))))
  rintro _ w1 ⟨a1, ca1, rfl, hFz1_0, hEw1⟩
  have hzw1 := hEw1.size
  have hlea1 := hFz1_0.le
  refine wpF_run 3 [(10, (vI 0)), (9, (vA [(vI n), (.slice a1 (hgt n + 1) ca1)])), (6, (.tuple #[(vA [(vI n), (.slice a1 (hgt n + 1) ca1)]), (vI 0)]))] (wpF_step (op_new (some 4) (Instr.alloc 62 true (.tuple #[])) (vP w1.heap.size 0) ([(vI 0), (.slice none 0 0)]) 62 ?_))
  intro w2 hBw2 hEw2
  have hzw2 := hEw2.size; have hlw2 := hBw2.lt
  refine wpF_step (op_store 62 w1.heap.size 0 62 (vA [(vI n), (.slice a1 (hgt n + 1) ca1)]) ([(vI 0), (.slice none 0 0)]) ([(vI n), (.slice a1 (hgt n + 1) ca1)]) hBw2 (by kernel_rfl) (by first | decide | (simp; done) | (simp; omega)) (by simp [Value.oneCell']) ?_)
  intro w3 hBw3 hCw3
  have hzw3 := hCw3.size
  rw [setFrom_all _ _ (by kernel_rfl)] at hBw3
  refine wpF_run 1 [(5, (vI 0))] (wpF_end (then_code (wpC_seq (wpC_seq (wpC_region (wpF_run 2 [(12, vF), (11, (vI 0))] (wpF_end (then_code (wpC_false ?_)))))))))
  refine wpC_skip (then_code (wpC_seq (wpC_region (wpF_step (op_v (some 14) (Instr.loadAt 62 (vP w1.heap.size 0)) (vA [(vI n), (.slice a1 (hgt n + 1) ca1)]) (rn_lda (vs := [(vI n), (.slice a1 (hgt n + 1) ca1)]) (hBw3.all)) ?_)))))
  refine wpF_run 1 [(15, (vP w1.heap.size 1))] (wpF_step (op_v (some 16) (Instr.loadAt 60 (vP w1.heap.size 1)) (.slice a1 (hgt n + 1) ca1) (rn_ld (hBw3.cell rfl)) ?_))
  refine wpF_run 1 [(17, (vI (hgt n + 1)))] (wpF_step (op_call (some 18) (c_base n (hgt n + 1) _ (((hFz1_0.ext hEw2)).chg hCw3 (fun k h1 h2 hs => by have h : k = _ := hs; omega)) (by omega) (by omega)) ?_))
  rintro _ w4 ⟨rfl, hEw4⟩
  have hzw4 := hEw4.size
  refine wpF_run 2 [(3, (vI 0)), (2, (vI (bas n (hgt n + 1))))] (wpF_end (then_code (wpC_ret (body_rets (.tuple #[(vI (bas n (hgt n + 1))), (vI 0)]) ?_))))
  have hX1 : Ext w w4 := ((Ext.own (hEw1.trans hEw2) hCw3 (by omega)).trans hEw4)
  exact ⟨rfl, hX1⟩

theorem c_SectorsBad (n : Int)  (w : World) (hp0 : ¬ (1 ≤ n ∧ n ≤ 4096)) :
    Calls Try.prog 10 #[(.int .i64 n)] w (Ret fun r w' => r = (.tuple #[(vI 0), (vI 1)]) ∧ Ext w w') := by
  refine calls_of (n := 19) (σ := [(0, (.int .i64 n))]) Try.func10 rfl ?_
  refine wpC_seq (wpC_region (wpF_run 2 [(3, (vI 0)), (2, (vI 0))] (wpF_end (then_code (wpC_seq (wpC_region (wpF_run 1 [(7, (.int .i64 n))] (wpF_step (op_call (some 8) (c_ofBad n _ (by omega)) ?_)))))))))
  rintro _ w1 ⟨rfl, hEw1⟩
  have hzw1 := hEw1.size
  refine wpF_run 3 [(10, (vI 1)), (9, (vA [(vI 0), (.slice none 0 0)])), (6, (.tuple #[(vA [(vI 0), (.slice none 0 0)]), (vI 1)]))] (wpF_step (op_new (some 4) (Instr.alloc 62 true (.tuple #[])) (vP w1.heap.size 0) ([(vI 0), (.slice none 0 0)]) 62 ?_))
  intro w2 hBw2 hEw2
  have hzw2 := hEw2.size; have hlw2 := hBw2.lt
  refine wpF_step (op_store 62 w1.heap.size 0 62 (vA [(vI 0), (.slice none 0 0)]) ([(vI 0), (.slice none 0 0)]) ([(vI 0), (.slice none 0 0)]) hBw2 (by kernel_rfl) (by first | decide | (simp; done) | (simp; omega)) (by simp [Value.oneCell']) ?_)
  intro w3 hBw3 hCw3
  have hzw3 := hCw3.size
  rw [setFrom_all _ _ (by kernel_rfl)] at hBw3
  refine wpF_run 1 [(5, (vI 1))] (wpF_end (then_code (wpC_seq (wpC_seq (wpC_region (wpF_run 2 [(12, vT), (11, (vI 1))] (wpF_end (then_code (wpC_true ?_)))))))))
  exact wpC_seq (wpC_region (wpF_run 3 [(3, (vI 1)), (2, (vI 0)), (13, (vI 1))] (wpF_end (then_code (wpC_ret (then_ret (body_rets (.tuple #[(vI 0), (vI 1)]) (⟨rfl, (Ext.own (hEw1.trans hEw2) hCw3 (by omega))⟩))))))))

theorem c_OfData (n : Nat) (s : Nat)  (w : World) (hp0 : 1 ≤ n) (hp1 : n ≤ 4096) (hp2 : s < 2 * n) :
    Calls Try.prog 12 #[(vI n), (vI s)] w (Ret fun r w' => r = (.tuple #[(vA [vT, (vI 0), (vI (s / 2)), (vI (s % 2))]), (vI 0)]) ∧ Ext w w') := by
  refine calls_of (n := 58) (σ := [(0, (vI n)), (1, (vI s))]) Try.func12 rfl ?_
  have h5 := hgt_le n
  have hbs := bas_small (l := hgt n + 1) hp1 (by omega)
  have hbg := bas_ge n (hgt n + 1)
  refine wpC_seq (wpC_region (wpF_step (op_new (some 4) (Instr.alloc 31 true (.tuple #[])) (vP w.heap.size 0) ([vF, (vI 0), (vI 0), (vI 0)]) 31 ?_)))
  intro w1 hBw1 hEw1
  have hzw1 := hEw1.size; have hlw1 := hBw1.lt
  refine wpF_run 1 [(5, (vI 0))] (wpF_end (then_code (wpC_seq (wpC_region (wpF_run 1 [(10, (vI n))] (wpF_step (op_call (some 11) (c_of n _ (by omega) (by omega)) ?_)))))))
  rintro _ w2 ⟨a1, ca1, rfl, hFz1_0, hEw2⟩
  have hzw2 := hEw2.size
  have hlea1 := hFz1_0.le
  refine wpF_run 3 [(13, (vI 0)), (12, (vA [(vI n), (.slice a1 (hgt n + 1) ca1)])), (9, (.tuple #[(vA [(vI n), (.slice a1 (hgt n + 1) ca1)]), (vI 0)]))] (wpF_step (op_new (some 6) (Instr.alloc 62 true (.tuple #[])) (vP w2.heap.size 0) ([(vI 0), (.slice none 0 0)]) 62 ?_))
  intro w3 hBw3 hEw3
  have hzw3 := hEw3.size; have hlw3 := hBw3.lt
  refine wpF_step (op_store 62 w2.heap.size 0 62 (vA [(vI n), (.slice a1 (hgt n + 1) ca1)]) ([(vI 0), (.slice none 0 0)]) ([(vI n), (.slice a1 (hgt n + 1) ca1)]) hBw3 (by kernel_rfl) (by first | decide | (simp; done) | (simp; omega)) (by simp [Value.oneCell']) ?_)
  intro w4 hBw4 hCw4
  have hzw4 := hCw4.size
  rw [setFrom_all _ _ (by kernel_rfl)] at hBw4
  refine wpF_run 1 [(7, (vI 0))] (wpF_end (then_code (wpC_seq (wpC_seq (wpC_region (wpF_run 2 [(15, vF), (14, (vI 0))] (wpF_end (then_code (wpC_false ?_)))))))))
  refine wpC_skip (then_code (wpC_seq (wpC_seq (wpC_region (wpF_run 1 [(18, (vI s))] (wpF_step (op_b (some 19) (decide (((s : Nat) : Int) < ((0 : Nat) : Int))) false (cmpDF (by omega)) ?_)))))))
  refine wpF_run 2 [(21, (vI s)), (20, vF)] (wpF_step (op_v (some 22) (Instr.loadAt 62 (vP w2.heap.size 0)) (vA [(vI n), (.slice a1 (hgt n + 1) ca1)]) (rn_lda (vs := [(vI n), (.slice a1 (hgt n + 1) ca1)]) (hBw4.all)) ?_))
  refine wpF_run 1 [(23, (vP w2.heap.size 1))] (wpF_step (op_v (some 24) (Instr.loadAt 60 (vP w2.heap.size 1)) (.slice a1 (hgt n + 1) ca1) (rn_ld (hBw4.cell rfl)) ?_))
  refine wpF_run 1 [(25, (vI (hgt n + 1)))] (wpF_step (op_call (some 26) (c_base n (hgt n + 1) _ (((hFz1_0.ext hEw3)).chg hCw4 (fun k h1 h2 hs => by have h : k = _ := hs; omega)) (by omega) (by omega)) ?_))
  rintro _ w5 ⟨rfl, hEw5⟩
  have hzw5 := hEw5.size
  refine wpF_step (op_b (some 27) (decide (((s : Nat) : Int) ≥ ((bas n (hgt n + 1) : Nat) : Int))) false (cmpDF (by omega)) ?_)
  refine wpF_run 1 [(28, vF)] (wpF_end (then_code (wpC_false (wpC_skip (then_code (wpC_seq (wpC_seq (wpC_region (wpF_run 2 [(31, (vI n)), (30, (vI s))] ?_)))))))))
  refine wpF_step (op_in (some 32) .i64 (IntKind.i64.wrap (((2 : Nat) : Int) * ((n : Nat) : Int))) (2 * n) (wrapS (by omega) (by omega) (by omega)) ?_)
  refine wpF_step (op_b (some 33) (decide (((s : Nat) : Int) < ((2 * n : Nat) : Int))) true (cmpDT (by omega)) ?_)
  refine wpF_end (then_code (wpC_true (wpC_seq (wpC_region (wpF_run 1 [(34, (vI s))] (wpF_step (op_in (some 35) .i64 (IntKind.i64.wrap (((s : Nat) : Int).tdiv ((2 : Nat) : Int))) (s / 2) (wrapS (tdivN _ _) (by omega) (by omega)) ?_)))))))
  refine wpF_run 1 [(36, (vI s))] (wpF_step (op_in (some 37) .i64 (((s : Nat) : Int).tmod ((2 : Nat) : Int)) (s % 2) (tmodN _ _) ?_))
  refine wpF_run 1 [(38, (vA [vT, (vI 0), (vI (s / 2)), (vI (s % 2))]))] ?_
  have hK1 := (((((((hBw1.ext hEw2)).ext hEw3)).chg hCw4 (fun hs => by have h : _ = _ := hs; omega))).ext hEw5)
  refine wpF_step (op_store 31 w.heap.size 0 31 (vA [vT, (vI 0), (vI (s / 2)), (vI (s % 2))]) ([vF, (vI 0), (vI 0), (vI 0)]) ([vT, (vI 0), (vI (s / 2)), (vI (s % 2))]) hK1 (by kernel_rfl) (by first | decide | (simp; done) | (simp; omega)) (by simp [Value.oneCell']) ?_)
  have hK2 := (((((((hBw1.ext hEw2)).ext hEw3)).chg hCw4 (fun hs => by have h : _ = _ := hs; omega))).ext hEw5)
  intro w6 hBw6 hCw6
  have hzw6 := hCw6.size
  rw [setFrom_all _ _ (by kernel_rfl)] at hBw6
  refine wpF_run 1 [(5, (vI 0))] (wpF_end (then_code (wpC_ret (then_ret (body_ret2 (show resVal Try.prog 58 _ _ (.cell 4 31) (vA [vT, (vI 0), (vI (s / 2)), (vI (s % 2))]) from ⟨⟨w.heap.size, 0, none⟩, (by kernel_rfl), run_loadVar_agg (T := 31) (vs := [vT, (vI 0), (vI (s / 2)), (vI (s % 2))]) (hBw6).all (by kernel_rfl)⟩) (show resVal Try.prog 58 _ _ (.tmp 5) (vI 0) by (show _ = _; kernel_rfl)) ?_)))))
  have hX1 : Ext w w6 := (Ext.own ((Ext.own ((hEw1.trans hEw2).trans hEw3) hCw4 (by omega)).trans hEw5) hCw6 (by omega))
  exact ⟨rfl, hX1⟩

theorem c_OfNode (n : Nat) (s : Nat)  (w : World) (hp0 : 1 ≤ n) (hp1 : n ≤ 4096) (hp2 : 2 * n ≤ s) (hp3 : s < bas n (hgt n + 1)) :
    Calls Try.prog 12 #[(vI n), (vI s)] w (Ret fun r w' => r = (.tuple #[(vA [vF, (vI (lev n s)), (vI ((s - bas n (lev n s)) / 2)), (vI ((s - bas n (lev n s)) % 2))]), (vI 0)]) ∧ Ext w w') := by
  refine calls_of (n := 58) (σ := [(0, (vI n)), (1, (vI s))]) Try.func12 rfl ?_
  have h5 := hgt_le n
  have hbs := bas_small (l := hgt n + 1) hp1 (by omega)
  have hbg := bas_ge n (hgt n + 1)
  have hlv := lev_spec hp1 hp2 hp3
  refine wpC_seq (wpC_region (wpF_step (op_new (some 4) (Instr.alloc 31 true (.tuple #[])) (vP w.heap.size 0) ([vF, (vI 0), (vI 0), (vI 0)]) 31 ?_)))
  intro w1 hBw1 hEw1
  have hzw1 := hEw1.size; have hlw1 := hBw1.lt
  refine wpF_run 1 [(5, (vI 0))] (wpF_end (then_code (wpC_seq (wpC_region (wpF_run 1 [(10, (vI n))] (wpF_step (op_call (some 11) (c_of n _ (by omega) (by omega)) ?_)))))))
  rintro _ w2 ⟨a1, ca1, rfl, hFz1_0, hEw2⟩
  have hzw2 := hEw2.size
  have hlea1 := hFz1_0.le
  refine wpF_run 3 [(13, (vI 0)), (12, (vA [(vI n), (.slice a1 (hgt n + 1) ca1)])), (9, (.tuple #[(vA [(vI n), (.slice a1 (hgt n + 1) ca1)]), (vI 0)]))] (wpF_step (op_new (some 6) (Instr.alloc 62 true (.tuple #[])) (vP w2.heap.size 0) ([(vI 0), (.slice none 0 0)]) 62 ?_))
  intro w3 hBw3 hEw3
  have hzw3 := hEw3.size; have hlw3 := hBw3.lt
  refine wpF_step (op_store 62 w2.heap.size 0 62 (vA [(vI n), (.slice a1 (hgt n + 1) ca1)]) ([(vI 0), (.slice none 0 0)]) ([(vI n), (.slice a1 (hgt n + 1) ca1)]) hBw3 (by kernel_rfl) (by first | decide | (simp; done) | (simp; omega)) (by simp [Value.oneCell']) ?_)
  intro w4 hBw4 hCw4
  have hzw4 := hCw4.size
  rw [setFrom_all _ _ (by kernel_rfl)] at hBw4
  refine wpF_run 1 [(7, (vI 0))] (wpF_end (then_code (wpC_seq (wpC_seq (wpC_region (wpF_run 2 [(15, vF), (14, (vI 0))] (wpF_end (then_code (wpC_false ?_)))))))))
  refine wpC_skip (then_code (wpC_seq (wpC_seq (wpC_region (wpF_run 1 [(18, (vI s))] (wpF_step (op_b (some 19) (decide (((s : Nat) : Int) < ((0 : Nat) : Int))) false (cmpDF (by omega)) ?_)))))))
  refine wpF_run 2 [(21, (vI s)), (20, vF)] (wpF_step (op_v (some 22) (Instr.loadAt 62 (vP w2.heap.size 0)) (vA [(vI n), (.slice a1 (hgt n + 1) ca1)]) (rn_lda (vs := [(vI n), (.slice a1 (hgt n + 1) ca1)]) (hBw4.all)) ?_))
  refine wpF_run 1 [(23, (vP w2.heap.size 1))] (wpF_step (op_v (some 24) (Instr.loadAt 60 (vP w2.heap.size 1)) (.slice a1 (hgt n + 1) ca1) (rn_ld (hBw4.cell rfl)) ?_))
  refine wpF_run 1 [(25, (vI (hgt n + 1)))] (wpF_step (op_call (some 26) (c_base n (hgt n + 1) _ (((hFz1_0.ext hEw3)).chg hCw4 (fun k h1 h2 hs => by have h : k = _ := hs; omega)) (by omega) (by omega)) ?_))
  rintro _ w5 ⟨rfl, hEw5⟩
  have hzw5 := hEw5.size
  refine wpF_step (op_b (some 27) (decide (((s : Nat) : Int) ≥ ((bas n (hgt n + 1) : Nat) : Int))) false (cmpDF (by omega)) ?_)
  refine wpF_run 1 [(28, vF)] (wpF_end (then_code (wpC_false (wpC_skip (then_code (wpC_seq (wpC_seq (wpC_region (wpF_run 2 [(31, (vI n)), (30, (vI s))] ?_)))))))))
  refine wpF_step (op_in (some 32) .i64 (IntKind.i64.wrap (((2 : Nat) : Int) * ((n : Nat) : Int))) (2 * n) (wrapS (by omega) (by omega) (by omega)) ?_)
  refine wpF_step (op_b (some 33) (decide (((s : Nat) : Int) < ((2 * n : Nat) : Int))) false (cmpDF (by omega)) ?_)
  refine wpF_end (then_code (wpC_false (wpC_skip (then_code (wpC_seq (wpC_region (wpF_run 1 [(8, (vI 0))] (wpF_end (then_code ?_)))))))))
  refine wpC_seq (wpC_block (wpC_loop (X := Nat) (fun k => [(8, (vI k))]) [39, 40, 41, 42, 43, 44, 45, 46] (fun k w6 => k ≤ lev n s ∧ Ext w5 w6) (fun k => hgt n + 1 - k) 0 (by kernel_rfl) ⟨by omega, Ext.refl _⟩ ?_))
  rintro k dw6 w6 ⟨hk, hEl⟩
  have hzl := hEl.size
  refine wpC_seq (wpC_seq (wpC_region (wpF_run 1 [(39, (vI s))] (wpF_step (op_v (some 40) (Instr.loadAt 62 (vP w2.heap.size 0)) (vA [(vI n), (.slice a1 (hgt n + 1) ca1)]) (rn_lda (vs := [(vI n), (.slice a1 (hgt n + 1) ca1)]) ((((hBw4.ext hEw5)).ext hEl).all)) ?_)))))
  refine wpF_run 1 [(41, (vI k))] (wpF_step (op_in (some 42) .i64 (IntKind.i64.wrap (((k : Nat) : Int) + ((1 : Nat) : Int))) (k + 1) (wrapS (by omega) (by omega) (by omega)) ?_))
  have hK1 := (((((((hFz1_0.ext hEw3)).chg hCw4 (fun k h1 h2 hs => by have h : k = _ := hs; omega))).ext hEw5)).ext hEl)
  refine wpF_step (op_call (some 43) (c_base n (k + 1) _ hK1 (by omega) (by omega)) ?_)
  rintro _ w7 ⟨rfl, hEw7⟩
  have hzw7 := hEw7.size
  refine wpF_step (op_split (some 44) (decide (((s : Nat) : Int) ≥ ((bas n (k + 1) : Nat) : Int))) (fun hc44 => ?_) (fun hc44 => ?_))
  · replace hc44 : s ≥ bas n (k + 1) := by have := of_d_t hc44; omega
    have hkl : k + 1 ≤ lev n s := by rcases Nat.lt_or_ge k (lev n s) with h | h; exact h; exact absurd (Nat.lt_of_lt_of_le hlv.2.2 (bas_le n (show lev n s + 1 ≤ k + 1 by omega))) (by omega)
    refine wpF_end (then_code (wpC_true (wpC_skip (then_code (wpC_block (wpC_region (wpF_run 1 [(45, (vI k))] (wpF_step (op_in (some 46) .i64 (IntKind.i64.wrap (((k : Nat) : Int) + ((1 : Nat) : Int))) (k + 1) (wrapS (by omega) (by omega) (by omega)) ?_)))))))))
    refine wpF_run 1 [(8, (vI (k + 1)))] (wpF_end (inBlock_normal (then_normal (endR_mk (k + 1) ?_ ?_))))
    · exact ⟨by omega, (hEl.trans hEw7)⟩
    · first | omega | (dsimp only; omega)
  · replace hc44 : ¬ (s ≥ bas n (k + 1)) := by have := of_d_f hc44; omega
    obtain rfl : k = lev n s := by rcases Nat.lt_or_ge k (lev n s) with h | h; exact absurd (bas_le n (show k + 1 ≤ lev n s from h)) (by omega); omega
    refine wpF_end (then_code (wpC_false (wpC_exit (then_exit (then_exit (inBlock_exit (then_code (wpC_seq (wpC_region ?_)))))))))
    refine wpF_run 1 [(47, (vI s))] ?_
    have hK2 := (((((hBw4.ext hEw5)).ext hEl)).ext hEw7)
    refine wpF_step (op_v (some 48) (Instr.loadAt 62 (vP w2.heap.size 0)) (vA [(vI n), (.slice a1 (hgt n + 1) ca1)]) (rn_lda (vs := [(vI n), (.slice a1 (hgt n + 1) ca1)]) (hK2.all)) ?_)
    refine wpF_run 1 [(49, (vI (lev n s)))] (wpF_step (op_call (some 50) (c_base n (lev n s) _ (hK1.ext hEw7) (by omega) (by omega)) ?_))
    rintro _ w8 ⟨rfl, hEw8⟩
    have hzw8 := hEw8.size
    refine wpF_step (op_in (some 51) .i64 (IntKind.i64.wrap (((s : Nat) : Int) - ((bas n (lev n s) : Nat) : Int))) (s - bas n (lev n s)) (wrapS (by omega) (by omega) (by omega)) ?_)
    refine wpF_run 1 [(1, (vI (s - bas n (lev n s))))] (wpF_end (then_code (wpC_seq (wpC_region (wpF_run 2 [(53, (vI (s - bas n (lev n s)))), (52, (vI (lev n s)))] (wpF_step (op_in (some 54) .i64 (IntKind.i64.wrap (((s - bas n (lev n s) : Nat) : Int).tdiv ((2 : Nat) : Int))) ((s - bas n (lev n s)) / 2) (wrapS (tdivN _ _) (by omega) (by omega)) ?_)))))))
    refine wpF_run 1 [(55, (vI (s - bas n (lev n s))))] (wpF_step (op_in (some 56) .i64 (((s - bas n (lev n s) : Nat) : Int).tmod ((2 : Nat) : Int)) ((s - bas n (lev n s)) % 2) (tmodN _ _) ?_))
    refine wpF_run 1 [(57, (vA [vF, (vI (lev n s)), (vI ((s - bas n (lev n s)) / 2)), (vI ((s - bas n (lev n s)) % 2))]))] ?_
    have hK3 := (((((((((((((hBw1.ext hEw2)).ext hEw3)).chg hCw4 (fun hs => by have h : _ = _ := hs; omega))).ext hEw5)).ext hEl)).ext hEw7)).ext hEw8)
    refine wpF_step (op_store 31 w.heap.size 0 31 (vA [vF, (vI (lev n s)), (vI ((s - bas n (lev n s)) / 2)), (vI ((s - bas n (lev n s)) % 2))]) ([vF, (vI 0), (vI 0), (vI 0)]) ([vF, (vI (lev n s)), (vI ((s - bas n (lev n s)) / 2)), (vI ((s - bas n (lev n s)) % 2))]) hK3 (by kernel_rfl) (by first | decide | (simp; done) | (simp; omega)) (by simp [Value.oneCell']) ?_)
    have hK4 := (((((((((((((hBw1.ext hEw2)).ext hEw3)).chg hCw4 (fun hs => by have h : _ = _ := hs; omega))).ext hEw5)).ext hEl)).ext hEw7)).ext hEw8)
    intro w9 hBw9 hCw9
    have hzw9 := hCw9.size
    rw [setFrom_all _ _ (by kernel_rfl)] at hBw9
    refine wpF_run 1 [(5, (vI 0))] (wpF_end (then_code (wpC_ret (body_ret2 (show resVal Try.prog 58 _ _ (.cell 4 31) (vA [vF, (vI (lev n s)), (vI ((s - bas n (lev n s)) / 2)), (vI ((s - bas n (lev n s)) % 2))]) from ⟨⟨w.heap.size, 0, none⟩, (by kernel_rfl), run_loadVar_agg (T := 31) (vs := [vF, (vI (lev n s)), (vI ((s - bas n (lev n s)) / 2)), (vI ((s - bas n (lev n s)) % 2))]) (hBw9).all (by kernel_rfl)⟩) (show resVal Try.prog 58 _ _ (.tmp 5) (vI 0) by (show _ = _; kernel_rfl)) ?_))))
    have hX1 : Ext w w9 := (Ext.own (((((Ext.own ((hEw1.trans hEw2).trans hEw3) hCw4 (by omega)).trans hEw5).trans hEl).trans hEw7).trans hEw8) hCw9 (by omega))
    exact ⟨rfl, hX1⟩

theorem c_OfBad0 (n : Int) (s : Int)  (w : World) (hp0 : ¬ (1 ≤ n ∧ n ≤ 4096)) :
    Calls Try.prog 12 #[(.int .i64 n), (.int .i64 s)] w (Ret fun r w' => r = (.tuple #[(vA [vF, (vI 0), (vI 0), (vI 0)]), (vI 1)]) ∧ Ext w w') := by
  refine calls_of (n := 58) (σ := [(0, (.int .i64 n)), (1, (.int .i64 s))]) Try.func12 rfl ?_
  refine wpC_seq (wpC_region (wpF_step (op_new (some 4) (Instr.alloc 31 true (.tuple #[])) (vP w.heap.size 0) ([vF, (vI 0), (vI 0), (vI 0)]) 31 ?_)))
  intro w1 hBw1 hEw1
  have hzw1 := hEw1.size; have hlw1 := hBw1.lt
  refine wpF_run 1 [(5, (vI 0))] (wpF_end (then_code (wpC_seq (wpC_region (wpF_run 1 [(10, (.int .i64 n))] (wpF_step (op_call (some 11) (c_ofBad n _ (by omega)) ?_)))))))
  rintro _ w2 ⟨rfl, hEw2⟩
  have hzw2 := hEw2.size
  refine wpF_run 3 [(13, (vI 1)), (12, (vA [(vI 0), (.slice none 0 0)])), (9, (.tuple #[(vA [(vI 0), (.slice none 0 0)]), (vI 1)]))] (wpF_step (op_new (some 6) (Instr.alloc 62 true (.tuple #[])) (vP w2.heap.size 0) ([(vI 0), (.slice none 0 0)]) 62 ?_))
  intro w3 hBw3 hEw3
  have hzw3 := hEw3.size; have hlw3 := hBw3.lt
  refine wpF_step (op_store 62 w2.heap.size 0 62 (vA [(vI 0), (.slice none 0 0)]) ([(vI 0), (.slice none 0 0)]) ([(vI 0), (.slice none 0 0)]) hBw3 (by kernel_rfl) (by first | decide | (simp; done) | (simp; omega)) (by simp [Value.oneCell']) ?_)
  intro w4 hBw4 hCw4
  have hzw4 := hCw4.size
  rw [setFrom_all _ _ (by kernel_rfl)] at hBw4
  refine wpF_run 1 [(7, (vI 1))] (wpF_end (then_code (wpC_seq (wpC_seq (wpC_region (wpF_run 2 [(15, vT), (14, (vI 1))] (wpF_end (then_code (wpC_true ?_)))))))))
  refine wpC_seq (wpC_region (wpF_run 2 [(17, (vI 1)), (16, (vA [vF, (vI 0), (vI 0), (vI 0)]))] ?_))
  have hK1 := (((((hBw1.ext hEw2)).ext hEw3)).chg hCw4 (fun hs => by have h : _ = _ := hs; omega))
  refine wpF_step (op_store 31 w.heap.size 0 31 (vA [vF, (vI 0), (vI 0), (vI 0)]) ([vF, (vI 0), (vI 0), (vI 0)]) ([vF, (vI 0), (vI 0), (vI 0)]) hK1 (by kernel_rfl) (by first | decide | (simp; done) | (simp; omega)) (by simp [Value.oneCell']) ?_)
  have hK2 := (((((hBw1.ext hEw2)).ext hEw3)).chg hCw4 (fun hs => by have h : _ = _ := hs; omega))
  intro w5 hBw5 hCw5
  have hzw5 := hCw5.size
  rw [setFrom_all _ _ (by kernel_rfl)] at hBw5
  refine wpF_run 1 [(5, (vI 1))] (wpF_end (then_code (wpC_ret (then_ret (body_ret2 (show resVal Try.prog 58 _ _ (.cell 4 31) (vA [vF, (vI 0), (vI 0), (vI 0)]) from ⟨⟨w.heap.size, 0, none⟩, (by kernel_rfl), run_loadVar_agg (T := 31) (vs := [vF, (vI 0), (vI 0), (vI 0)]) (hBw5).all (by kernel_rfl)⟩) (show resVal Try.prog 58 _ _ (.tmp 5) (vI 1) by (show _ = _; kernel_rfl)) ?_)))))
  have hX1 : Ext w w5 := (Ext.own (Ext.own ((hEw1.trans hEw2).trans hEw3) hCw4 (by omega)) hCw5 (by omega))
  exact ⟨rfl, hX1⟩

theorem c_OfBad1 (n : Nat) (s : Int)  (w : World) (hp0 : 1 ≤ n) (hp1 : n ≤ 4096) (hp2 : s < 0) :
    Calls Try.prog 12 #[(vI n), (.int .i64 s)] w (Ret fun r w' => r = (.tuple #[(vA [vF, (vI 0), (vI 0), (vI 0)]), (vI 1)]) ∧ Ext w w') := by
  refine calls_of (n := 58) (σ := [(0, (vI n)), (1, (.int .i64 s))]) Try.func12 rfl ?_
  have h5 := hgt_le n
  have hbs := bas_small (l := hgt n + 1) hp1 (by omega)
  have hbg := bas_ge n (hgt n + 1)
  refine wpC_seq (wpC_region (wpF_step (op_new (some 4) (Instr.alloc 31 true (.tuple #[])) (vP w.heap.size 0) ([vF, (vI 0), (vI 0), (vI 0)]) 31 ?_)))
  intro w1 hBw1 hEw1
  have hzw1 := hEw1.size; have hlw1 := hBw1.lt
  refine wpF_run 1 [(5, (vI 0))] (wpF_end (then_code (wpC_seq (wpC_region (wpF_run 1 [(10, (vI n))] (wpF_step (op_call (some 11) (c_of n _ (by omega) (by omega)) ?_)))))))
  rintro _ w2 ⟨a1, ca1, rfl, hFz1_0, hEw2⟩
  have hzw2 := hEw2.size
  have hlea1 := hFz1_0.le
  refine wpF_run 3 [(13, (vI 0)), (12, (vA [(vI n), (.slice a1 (hgt n + 1) ca1)])), (9, (.tuple #[(vA [(vI n), (.slice a1 (hgt n + 1) ca1)]), (vI 0)]))] (wpF_step (op_new (some 6) (Instr.alloc 62 true (.tuple #[])) (vP w2.heap.size 0) ([(vI 0), (.slice none 0 0)]) 62 ?_))
  intro w3 hBw3 hEw3
  have hzw3 := hEw3.size; have hlw3 := hBw3.lt
  refine wpF_step (op_store 62 w2.heap.size 0 62 (vA [(vI n), (.slice a1 (hgt n + 1) ca1)]) ([(vI 0), (.slice none 0 0)]) ([(vI n), (.slice a1 (hgt n + 1) ca1)]) hBw3 (by kernel_rfl) (by first | decide | (simp; done) | (simp; omega)) (by simp [Value.oneCell']) ?_)
  intro w4 hBw4 hCw4
  have hzw4 := hCw4.size
  rw [setFrom_all _ _ (by kernel_rfl)] at hBw4
  refine wpF_run 1 [(7, (vI 0))] (wpF_end (then_code (wpC_seq (wpC_seq (wpC_region (wpF_run 2 [(15, vF), (14, (vI 0))] (wpF_end (then_code (wpC_false ?_)))))))))
  refine wpC_skip (then_code (wpC_seq (wpC_seq (wpC_region (wpF_run 1 [(18, (.int .i64 s))] (wpF_step (op_b (some 19) (decide (s < ((0 : Nat) : Int))) true (cmpDT (by omega)) ?_)))))))
  refine wpF_run 9 [(28, vT), (27, undef), (26, undef), (25, undef), (24, undef), (23, undef), (22, undef), (21, undef), (20, vT)] (wpF_end (then_code (wpC_true (wpC_seq (wpC_region (wpF_run 1 [(29, (vA [vF, (vI 0), (vI 0), (vI 0)]))] ?_))))))
  have hK1 := (((((hBw1.ext hEw2)).ext hEw3)).chg hCw4 (fun hs => by have h : _ = _ := hs; omega))
  refine wpF_step (op_store 31 w.heap.size 0 31 (vA [vF, (vI 0), (vI 0), (vI 0)]) ([vF, (vI 0), (vI 0), (vI 0)]) ([vF, (vI 0), (vI 0), (vI 0)]) hK1 (by kernel_rfl) (by first | decide | (simp; done) | (simp; omega)) (by simp [Value.oneCell']) ?_)
  have hK2 := (((((hBw1.ext hEw2)).ext hEw3)).chg hCw4 (fun hs => by have h : _ = _ := hs; omega))
  intro w5 hBw5 hCw5
  have hzw5 := hCw5.size
  rw [setFrom_all _ _ (by kernel_rfl)] at hBw5
  refine wpF_run 1 [(5, (vI 1))] (wpF_end (then_code (wpC_ret (then_ret (body_ret2 (show resVal Try.prog 58 _ _ (.cell 4 31) (vA [vF, (vI 0), (vI 0), (vI 0)]) from ⟨⟨w.heap.size, 0, none⟩, (by kernel_rfl), run_loadVar_agg (T := 31) (vs := [vF, (vI 0), (vI 0), (vI 0)]) (hBw5).all (by kernel_rfl)⟩) (show resVal Try.prog 58 _ _ (.tmp 5) (vI 1) by (show _ = _; kernel_rfl)) ?_)))))
  have hX1 : Ext w w5 := (Ext.own (Ext.own ((hEw1.trans hEw2).trans hEw3) hCw4 (by omega)) hCw5 (by omega))
  exact ⟨rfl, hX1⟩

theorem c_OfBad2 (n : Nat) (s : Int)  (w : World) (hp0 : 1 ≤ n) (hp1 : n ≤ 4096) (hp2 : (bas n (hgt n + 1) : Int) ≤ s) :
    Calls Try.prog 12 #[(vI n), (.int .i64 s)] w (Ret fun r w' => r = (.tuple #[(vA [vF, (vI 0), (vI 0), (vI 0)]), (vI 1)]) ∧ Ext w w') := by
  refine calls_of (n := 58) (σ := [(0, (vI n)), (1, (.int .i64 s))]) Try.func12 rfl ?_
  have h5 := hgt_le n
  have hbs := bas_small (l := hgt n + 1) hp1 (by omega)
  have hbg := bas_ge n (hgt n + 1)
  refine wpC_seq (wpC_region (wpF_step (op_new (some 4) (Instr.alloc 31 true (.tuple #[])) (vP w.heap.size 0) ([vF, (vI 0), (vI 0), (vI 0)]) 31 ?_)))
  intro w1 hBw1 hEw1
  have hzw1 := hEw1.size; have hlw1 := hBw1.lt
  refine wpF_run 1 [(5, (vI 0))] (wpF_end (then_code (wpC_seq (wpC_region (wpF_run 1 [(10, (vI n))] (wpF_step (op_call (some 11) (c_of n _ (by omega) (by omega)) ?_)))))))
  rintro _ w2 ⟨a1, ca1, rfl, hFz1_0, hEw2⟩
  have hzw2 := hEw2.size
  have hlea1 := hFz1_0.le
  refine wpF_run 3 [(13, (vI 0)), (12, (vA [(vI n), (.slice a1 (hgt n + 1) ca1)])), (9, (.tuple #[(vA [(vI n), (.slice a1 (hgt n + 1) ca1)]), (vI 0)]))] (wpF_step (op_new (some 6) (Instr.alloc 62 true (.tuple #[])) (vP w2.heap.size 0) ([(vI 0), (.slice none 0 0)]) 62 ?_))
  intro w3 hBw3 hEw3
  have hzw3 := hEw3.size; have hlw3 := hBw3.lt
  refine wpF_step (op_store 62 w2.heap.size 0 62 (vA [(vI n), (.slice a1 (hgt n + 1) ca1)]) ([(vI 0), (.slice none 0 0)]) ([(vI n), (.slice a1 (hgt n + 1) ca1)]) hBw3 (by kernel_rfl) (by first | decide | (simp; done) | (simp; omega)) (by simp [Value.oneCell']) ?_)
  intro w4 hBw4 hCw4
  have hzw4 := hCw4.size
  rw [setFrom_all _ _ (by kernel_rfl)] at hBw4
  refine wpF_run 1 [(7, (vI 0))] (wpF_end (then_code (wpC_seq (wpC_seq (wpC_region (wpF_run 2 [(15, vF), (14, (vI 0))] (wpF_end (then_code (wpC_false ?_)))))))))
  refine wpC_skip (then_code (wpC_seq (wpC_seq (wpC_region (wpF_run 1 [(18, (.int .i64 s))] (wpF_step (op_b (some 19) (decide (s < ((0 : Nat) : Int))) false (cmpDF (by omega)) ?_)))))))
  refine wpF_run 2 [(21, (.int .i64 s)), (20, vF)] (wpF_step (op_v (some 22) (Instr.loadAt 62 (vP w2.heap.size 0)) (vA [(vI n), (.slice a1 (hgt n + 1) ca1)]) (rn_lda (vs := [(vI n), (.slice a1 (hgt n + 1) ca1)]) (hBw4.all)) ?_))
  refine wpF_run 1 [(23, (vP w2.heap.size 1))] (wpF_step (op_v (some 24) (Instr.loadAt 60 (vP w2.heap.size 1)) (.slice a1 (hgt n + 1) ca1) (rn_ld (hBw4.cell rfl)) ?_))
  refine wpF_run 1 [(25, (vI (hgt n + 1)))] (wpF_step (op_call (some 26) (c_base n (hgt n + 1) _ (((hFz1_0.ext hEw3)).chg hCw4 (fun k h1 h2 hs => by have h : k = _ := hs; omega)) (by omega) (by omega)) ?_))
  rintro _ w5 ⟨rfl, hEw5⟩
  have hzw5 := hEw5.size
  refine wpF_step (op_b (some 27) (decide (s ≥ ((bas n (hgt n + 1) : Nat) : Int))) true (cmpDT (by omega)) ?_)
  refine wpF_run 1 [(28, vT)] (wpF_end (then_code (wpC_true (wpC_seq (wpC_region (wpF_run 1 [(29, (vA [vF, (vI 0), (vI 0), (vI 0)]))] ?_))))))
  have hK1 := (((((((hBw1.ext hEw2)).ext hEw3)).chg hCw4 (fun hs => by have h : _ = _ := hs; omega))).ext hEw5)
  refine wpF_step (op_store 31 w.heap.size 0 31 (vA [vF, (vI 0), (vI 0), (vI 0)]) ([vF, (vI 0), (vI 0), (vI 0)]) ([vF, (vI 0), (vI 0), (vI 0)]) hK1 (by kernel_rfl) (by first | decide | (simp; done) | (simp; omega)) (by simp [Value.oneCell']) ?_)
  have hK2 := (((((((hBw1.ext hEw2)).ext hEw3)).chg hCw4 (fun hs => by have h : _ = _ := hs; omega))).ext hEw5)
  intro w6 hBw6 hCw6
  have hzw6 := hCw6.size
  rw [setFrom_all _ _ (by kernel_rfl)] at hBw6
  refine wpF_run 1 [(5, (vI 1))] (wpF_end (then_code (wpC_ret (then_ret (body_ret2 (show resVal Try.prog 58 _ _ (.cell 4 31) (vA [vF, (vI 0), (vI 0), (vI 0)]) from ⟨⟨w.heap.size, 0, none⟩, (by kernel_rfl), run_loadVar_agg (T := 31) (vs := [vF, (vI 0), (vI 0), (vI 0)]) (hBw6).all (by kernel_rfl)⟩) (show resVal Try.prog 58 _ _ (.tmp 5) (vI 1) by (show _ = _; kernel_rfl)) ?_)))))
  have hX1 : Ext w w6 := (Ext.own ((Ext.own ((hEw1.trans hEw2).trans hEw3) hCw4 (by omega)).trans hEw5) hCw6 (by omega))
  exact ⟨rfl, hX1⟩

theorem c_OfBad (n : Int) (s : Int)  (w : World) (hp0 : ¬ ((1 ≤ n ∧ n ≤ 4096) ∧ (0 ≤ s ∧ s < bas n.toNat (hgt n.toNat + 1)))) :
    Calls Try.prog 12 #[(.int .i64 n), (.int .i64 s)] w (Ret fun r w' => r = (.tuple #[(vA [vF, (vI 0), (vI 0), (vI 0)]), (vI 1)]) ∧ Ext w w') := by
  by_cases h : 1 ≤ n ∧ n ≤ 4096
  · obtain ⟨m, rfl⟩ := Int.eq_ofNat_of_zero_le (show 0 ≤ n by omega)
    rw [Int.toNat_natCast] at hp0
    by_cases hi : s < 0
    · exact c_OfBad1 m s w (by omega) (by omega) hi
    · exact c_OfBad2 m s w (by omega) (by omega) (by omega)
  · exact c_OfBad0 n s w h

end Go.Proofs.Ytpcbhalagllhnaa
