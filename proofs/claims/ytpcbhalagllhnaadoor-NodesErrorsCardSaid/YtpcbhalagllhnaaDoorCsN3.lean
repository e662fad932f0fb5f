/- CsN3: what each function does, by its own code. No condition beyond those of each statement. -/
import Derived.Test.YtpcbhalagllhnaaDoorCsN2
namespace Go.Proofs.YtpcbhalagllhnaaDoor
open Go Go.RowKit Go.Cs
set_option maxRecDepth 100000
set_option linter.all false
set_option linter.unusedVariables false

theorem c_NNOf (x : NN)  (w : World)  :
    Calls Tryd.prog 9 #[(vA (nnC x))] w (Ret fun r w' => r = (.tuple #[(vI x.n), (vA (nodC (x.nod x.p)))]) ∧ Ext w w') := by
  refine calls_of (n := 67) (σ := [(0, (vA (nnC x)))]) Tryd.func9 rfl ?_
  have hkx := x.hk
  have h5 := hgt_le x.n
  have hn1 : 1 ≤ x.n ∧ x.n ≤ 4096 := by unfold NN.n nof; omega
  have hln : x.l ≤ hgt x.n := Nat.le_of_lt_succ (Nat.mod_lt _ (Nat.succ_pos _))
  have hcp := cnt_pos hn1.1 x.l
  have hcn := cnt_n x.n x.l
  have hjn : x.j < cnt x.n x.l := Nat.mod_lt _ hcp
  have hp4 : x.p ≤ 4 := by unfold NN.p prt; omega
  have hlvx := x.hlv
  have hixx := x.hix
  refine wpC_seq (wpC_region (wpF_step (op_new (some 1) (Instr.box 27 (vA (nnC x))) (vP w.heap.size 0) (nnC x) 27 ?_)))
  intro w1 hBw1 hEw1
  have hzw1 := hEw1.size; have hlw1 := hBw1.lt
  refine wpF_run 1 [(2, (vI 0))] (wpF_step (op_new (some 3) (Instr.alloc 41 true (.tuple #[])) (vP w1.heap.size 0) (nodC Nod.zero) 41 ?_))
  intro w2 hBw2 hEw2
  have hzw2 := hEw2.size; have hlw2 := hBw2.lt
  refine wpF_end (then_code (wpC_seq (wpC_region (wpF_run 1 [(9, (vP w.heap.size 0))] (wpF_step (op_v (some 10) (Instr.loadAt 24 (vP w.heap.size 0)) (vA [(vH x.k)]) (rn_lda (vs := [(vH x.k)]) ((hBw1.ext hEw2).at 0 [vH x.k] rfl)) ?_))))))
  refine wpF_step (op_call (some 11) (c_NOf x.k _ (by omega)) ?_)
  rintro _ w3 ⟨rfl, hEw3⟩
  have hzw3 := hEw3.size
  rw [show nof x.k = x.n from rfl]
  refine wpF_run 1 [(4, (vI x.n))] (wpF_end (then_code (wpC_seq (wpC_drawM (Ext w3.drew) 8 [(13, 2, 0), (14, 4096, 1), (15, 8192, 2), (16, 16, 0), (17, 32768, 8), (18, 65536, 16), (19, 147456, 36), (6, 262144, 127)] (fun hT36 => ?_)))))
  have hEw4 : Ext w3 w3.drew := Ext.drew w3
  generalize w3.drew = w4 at hEw4 ⊢
  have hzw4 := hEw4.size
  refine anyM_run hT36 [(0, 12, (vP w.heap.size 1))] 1 1 ?_
  have hK1 := (((((hBw1.ext hEw2)).ext hEw3)).ext hEw4)
  refine anyM_take hT36 1 3 (some 13) (vB x.lv) (yld_val (Instr.loadAt 5 (vP w.heap.size 1)) (fun w' hC => rn_ld ((hK1.ext hC).cell rfl))) (anyM_take hT36 2 7 (some 14) (vI x.lv) (yld_in .i64 (IntKind.i64.wrap ((x.lv : Nat) : Int)) (wrapS rfl (by omega) (by omega))) (anyM_run hT36 [(3, 15, (vI x.n))] 1 15 (anyM_take hT36 4 31 (some 16) (vI (hgt x.n)) (yld_call (f := 28) (args := #[(vI x.n)]) (fun w' hC => c_rHeight x.n _ (by omega) (by omega))) (anyM_take hT36 5 63 (some 17) (vI (hgt x.n + 1)) (yld_in .i64 (IntKind.i64.wrap (((hgt x.n : Nat) : Int) + ((1 : Nat) : Int))) (wrapS (by omega) (by omega) (by omega))) (anyM_take hT36 6 127 (some 18) (vI x.l) (yld_val (bo .rem 3 (.tmp 14) (.tmp 17) (vI x.lv) (vI (hgt x.n + 1))) (fun w' hC => run_rem (by omega))) (anyM_run hT36 [(7, 5, (vI x.l))] 1 255 (anyM_done (then_code (wpC_seq ?_)))))))))
  refine wpC_drawM (Ext w4.drew) 8 [(20, 2, 0), (21, 524288, 1), (22, 1048576, 2), (23, 16, 0), (24, 32, 0), (25, 12582912, 24), (26, 18874368, 36), (7, 33554432, 127)] (fun hT52 => ?_)
  have hEw5 : Ext w4 w4.drew := Ext.drew w4
  generalize w4.drew = w5 at hEw5 ⊢
  have hzw5 := hEw5.size
  refine anyM_run hT52 [(0, 19, (vP w.heap.size 2))] 1 1 (anyM_take hT52 1 3 (some 20) (vH x.ix) (yld_val (Instr.loadAt 22 (vP w.heap.size 2)) (fun w' hC => rn_ld (((hK1.ext hEw5).ext hC).cell rfl))) (anyM_take hT52 2 7 (some 21) (vI x.ix) (yld_in .i64 (IntKind.i64.wrap ((x.ix : Nat) : Int)) (wrapS rfl (by omega) (by omega))) (anyM_run hT52 [(3, 22, (vI x.n)), (4, 23, (vI x.l))] 2 31 (anyM_take hT52 5 63 (some 24) (vI (cnt x.n x.l)) (yld_call (f := 18) (args := #[(vI x.n), (vI x.l)]) (fun w' hC => c_rCount x.n x.l _ (by omega) (by omega) (by omega))) (anyM_take hT52 6 127 (some 25) (vI x.j) (yld_val (bo .rem 3 (.tmp 21) (.tmp 24) (vI x.ix) (vI (cnt x.n x.l))) (fun w' hC => run_rem (by omega))) (anyM_run hT52 [(7, 6, (vI x.j))] 1 255 (anyM_done (then_code (wpC_seq ?_)))))))))
  refine wpC_region (wpF_run 1 [(26, (vI x.l))] (wpF_step (op_in (some 27) .u8 (IntKind.u8.wrap ((x.l : Nat) : Int)) x.l (wrapUx rfl rfl (by show _ < 2 ^ 8; omega)) ?_)))
  refine wpF_run 1 [(28, (vI x.j))] (wpF_step (op_in (some 29) .u32 (IntKind.u32.wrap ((x.j : Nat) : Int)) x.j (wrapUx rfl rfl (by show _ < 2 ^ 32; omega)) ?_))
  refine wpF_step (op_v (some 30) (Instr.build 41 #[(0, (vB x.l)), (1, (vW x.j))]) (vA (nodC (x.nod 0))) ((run_build_nod x.l x.j (by omega) (by omega)).trans (congrArg (fun z : Nod => Result.ok (Value.agg (nodC z).toArray) _) (show (Nod.emp x.l x.j (by omega) (by omega) : Nod) = x.nod 0 from (x.nod_zero _ _).symm))) ?_)
  refine wpF_step (op_new (some 7) (Instr.alloc 41 true (.tuple #[])) (vP w5.heap.size 0) (nodC Nod.zero) 41 ?_)
  intro w6 hBw6 hEw6
  have hzw6 := hEw6.size; have hlw6 := hBw6.lt
  refine wpF_step (op_store 41 w5.heap.size 0 41 (vA (nodC (x.nod 0))) (nodC Nod.zero) (nodC (x.nod 0)) hBw6 (by rw [nodC_len]; kernel_rfl) (by first | (simp; done) | (simp; omega)) (nodC_one _) ?_)
  intro w7 hBw7 hCw7
  have hzw7 := hCw7.size
  rw [setFrom_all _ _ (by simp)] at hBw7
  refine wpF_end (then_code (wpC_seq (wpC_seq (wpC_region (wpF_run 1 [(8, (vI 0))] (wpF_end (then_code (wpC_block ?_))))))))
  have hK2 := (((((hK1.ext hEw5)).ext hEw6)).chg hCw7 (fun hs => by have h : _ = _ := hs; omega))
  have hK3 := (((((((((hBw2.ext hEw3)).ext hEw4)).ext hEw5)).ext hEw6)).chg hCw7 (fun hs => by have h : _ = _ := hs; omega))
  have hX1 : Ext w w7 := (Ext.own (((((hEw1.trans hEw2).trans hEw3).trans hEw4).trans hEw5).trans hEw6) hCw7 (by omega))
  refine wpC_loop (X := Nat) (fun p => [(8, (vI p))]) [31, 32, 33, 34, 35, 36, 37, 38, 39, 40, 41, 42, 43, 44, 45, 46, 47, 48, 49, 50, 51, 52, 53, 54, 55, 56, 57, 58, 59, 60, 61, 62, 63, 64] (fun p w8 => p ≤ x.p ∧ Blk w8 w.heap.size (nnC x) 27 ∧ Blk w8 w1.heap.size (nodC Nod.zero) 41 ∧ Blk w8 w5.heap.size (nodC (x.nod p)) 41 ∧ Ext w w8) (fun p => x.p - p) 0 (by kernel_rfl) ⟨by omega, hK2, hK3, hBw7, hX1⟩ ?_
  rintro p dw8 w8 ⟨hp, hB1, hB3, hB7, hEl⟩
  have hzl := hEl.size
  have hlthB1 := hB1.lt
  have hlthB3 := hB3.lt
  have hlthB7 := hB7.lt
  refine wpC_seq (wpC_seq (wpC_region (wpF_run 4 [(34, (vI x.j)), (33, (vI x.l)), (32, (vI x.n)), (31, (vI p))] (wpF_step (op_call (some 35) (c_rParts x.n x.l x.j _ (by omega) (by omega) (by omega) (by omega)) ?_)))))
  rintro _ _ ⟨rfl, rfl⟩
  rw [show prt x.n x.l x.j = x.p from rfl]
  refine wpF_step (op_split (some 36) (decide (((p : Nat) : Int) < ((x.p : Nat) : Int))) (fun hc36 => ?_) (fun hc36 => ?_))
  · replace hc36 : p < x.p := by have := of_d_t hc36; omega
    refine wpF_end (then_code (wpC_true (wpC_skip (then_code (wpC_seq (wpC_block (wpC_seq (wpC_region (wpF_run 1 [(39, (vI x.l))] ?_)))))))))
    refine wpF_step (op_split (some 40) ((((x.l : Nat) : Int) == ((0 : Nat) : Int))) (fun hc40 => ?_) (fun hc40 => ?_))
    · replace hc40 : x.l = 0 := by have := of_eq_t hc40; omega
      refine wpF_end (then_code (wpC_true (wpC_drawM (Chg (fun k => k = w5.heap.size) w8.drew) 13 [(42, 256, 0), (43, 256, 0), (44, 2, 0), (45, 13194139533312, 6), (46, 17592186044416, 8), (47, 256, 0), (48, 2, 0), (49, 211106232532992, 96), (50, 281474976710656, 128), (51, 598134325510144, 272), (52, 128, 0), (53, 2253998836940800, 2047), (0, 5629499534213120, 3071)] (fun hT121 => ?_))))
      have hEw9 : Ext w8 w8.drew := Ext.drew w8
      generalize w8.drew = w9 at hEw9 ⊢
      have hzw9 := hEw9.size
      refine anyM_run (hw := show Chg (fun k => k = w5.heap.size) w9 w9 from (Chg.refl (fun k => k = w5.heap.size) w9)) hT121 [(0, 41, (vI p)), (1, 42, (vI p)), (2, 43, (vP w.heap.size 3))] 3 7 (anyM_take (hw := show Chg (fun k => k = w5.heap.size) w9 w9 from (Chg.refl (fun k => k = w5.heap.size) w9)) hT121 3 15 (some 44) (vP w.heap.size (3 + p * 1)) (yld_val (Instr.indexAt 25 (vP w.heap.size 3) (vI p)) (fun w' hC => rn_ixa (E := 5) (sz := 1) (m := 4) (by omega))) (anyM_take (hw := show Chg (fun k => k = w5.heap.size) w9 w9 from (Chg.refl (fun k => k = w5.heap.size) w9)) hT121 4 31 (some 45) (vB (byt x.st p)) (yld_val (Instr.loadAt 5 (vP w.heap.size (3 + p * 1))) (fun w' hC => rn_ld (((hB1.ext hEw9).chg hC (fun hs => by have h : _ = _ := hs; omega)).cell (nn_st (by omega))))) (anyM_run (hw := show Chg (fun k => k = w5.heap.size) w9 w9 from (Chg.refl (fun k => k = w5.heap.size) w9)) hT121 [(5, 46, (vI p)), (6, 47, (vP w.heap.size 7))] 2 127 (anyM_take (hw := show Chg (fun k => k = w5.heap.size) w9 w9 from (Chg.refl (fun k => k = w5.heap.size) w9)) hT121 7 255 (some 48) (vP w.heap.size (7 + p * 1)) (yld_val (Instr.indexAt 25 (vP w.heap.size 7) (vI p)) (fun w' hC => rn_ixa (E := 5) (sz := 1) (m := 4) (by omega))) (anyM_take (hw := show Chg (fun k => k = w5.heap.size) w9 w9 from (Chg.refl (fun k => k = w5.heap.size) w9)) hT121 8 511 (some 49) (vB (byt x.sd p)) (yld_val (Instr.loadAt 5 (vP w.heap.size (7 + p * 1))) (fun w' hC => rn_ld (((hB1.ext hEw9).chg hC (fun hs => by have h : _ = _ := hs; omega)).cell (nn_sd (by omega))))) ?_)))))
      refine anyM_run (hw := show Chg (fun k => k = w5.heap.size) w9 w9 from (Chg.refl (fun k => k = w5.heap.size) w9)) hT121 [(10, 51, (vP w5.heap.size 2))] 1 1535 (anyM_one 9 2047 (op_call (some 50) (c_mkR (byt x.st p) (byt x.sd p) _ (byt_lt _ _) (byt_lt _ _)) ?_))
      rintro _ w10 ⟨rfl, hEw10⟩
      have hzw10 := hEw10.size
      refine ⟨.inr ((Chg.refl (fun k => k = w5.heap.size) w9).trans hEw10.chg), ?_⟩
      refine anyM_take (hw := show Chg (fun k => k = w5.heap.size) w9 w10 from ((Chg.refl (fun k => k = w5.heap.size) w9).trans hEw10.chg)) hT121 11 4095 (some 52) (vP w5.heap.size (2 + p * 35)) (yld_val (Instr.indexAt 36 (vP w5.heap.size 2) (vI p)) (fun w' hC => rn_ixa (E := 35) (sz := 35) (m := 4) (by omega))) (anyM_one 12 8191 (op_store 35 w5.heap.size (2 + p * 35) 41 (vA (recC (mkR (byt x.st p) (byt x.sd p)))) (nodC (x.nod p)) (recC (mkR (byt x.st p) (byt x.sd p))) (((hB7.ext hEw9)).ext hEw10) (by rw [recC_len]; kernel_rfl) (by first | (simp; done) | (simp; omega)) (recC_one _) ?_))
      intro w11 hBw11 hCw11
      have hzw11 := hCw11.size
      rw [show (setFrom (nodC (x.nod p)) (2 + p * 35) (recC (mkR (byt x.st p) (byt x.sd p))) : List Value) = nodC ((x.nod p).setR p (mkR (byt x.st p) (byt x.sd p))) from nod_setR (by omega)] at hBw11
      refine ⟨.inr (Chg.then ((Chg.refl (fun k => k = w5.heap.size) w9).trans hEw10.chg) hCw11 (fun k hk hs => by have h : k = _ := hs; first | exact hs | (exfalso; omega))), ?_⟩
      refine anyM_done (inBlock_normal (then_code (wpC_region (wpF_run 1 [(37, (vI p))] (wpF_step (op_in (some 38) .i64 (IntKind.i64.wrap (((p : Nat) : Int) + ((1 : Nat) : Int))) (p + 1) (wrapS (by omega) (by omega) (by omega)) ?_))))))
      refine wpF_run 1 [(8, (vI (p + 1)))] (wpF_end (then_normal ?_))
      have hK4 := (((((hB1.ext hEw9)).ext hEw10)).chg hCw11 (fun hs => by have h : _ = _ := hs; omega))
      have hK5 := (((((hB3.ext hEw9)).ext hEw10)).chg hCw11 (fun hs => by have h : _ = _ := hs; omega))
      have hX2 : Ext w w11 := (Ext.own ((hEl.trans hEw9).trans hEw10) hCw11 (by omega))
      refine endR_mk (p + 1) ?_ ?_
      · exact ⟨by omega, hK4, hK5, (x.nod_setR (p := p) (by omega) (by omega)) ▸ hBw11, hX2⟩
      · first | omega | (dsimp only; omega)
    · replace hc40 : ¬ (x.l = 0) := by have := of_eq_f hc40; omega
      refine wpF_end (then_code (wpC_false (wpC_drawM (Chg (fun k => k = w5.heap.size) w8.drew) 13 [(54, 256, 0), (55, 256, 0), (56, 2, 0), (57, 54043195528445952, 6), (58, 72057594037927936, 8), (59, 256, 0), (60, 2, 0), (61, 864691128455135232, 96), (62, 1152921504606846976, 128), (63, 2449958197289549824, 272), (64, 128, 0), (65, 9232379236109516800, 2047), (0, 23058430092136939520, 3071)] (fun hT161 => ?_))))
      have hEw12 : Ext w8 w8.drew := Ext.drew w8
      generalize w8.drew = w12 at hEw12 ⊢
      have hzw12 := hEw12.size
      refine anyM_run (hw := show Chg (fun k => k = w5.heap.size) w12 w12 from (Chg.refl (fun k => k = w5.heap.size) w12)) hT161 [(0, 53, (vI p)), (1, 54, (vI p)), (2, 55, (vP w.heap.size 3))] 3 7 (anyM_take (hw := show Chg (fun k => k = w5.heap.size) w12 w12 from (Chg.refl (fun k => k = w5.heap.size) w12)) hT161 3 15 (some 56) (vP w.heap.size (3 + p * 1)) (yld_val (Instr.indexAt 25 (vP w.heap.size 3) (vI p)) (fun w' hC => rn_ixa (E := 5) (sz := 1) (m := 4) (by omega))) (anyM_take (hw := show Chg (fun k => k = w5.heap.size) w12 w12 from (Chg.refl (fun k => k = w5.heap.size) w12)) hT161 4 31 (some 57) (vB (byt x.st p)) (yld_val (Instr.loadAt 5 (vP w.heap.size (3 + p * 1))) (fun w' hC => rn_ld (((hB1.ext hEw12).chg hC (fun hs => by have h : _ = _ := hs; omega)).cell (nn_st (by omega))))) (anyM_run (hw := show Chg (fun k => k = w5.heap.size) w12 w12 from (Chg.refl (fun k => k = w5.heap.size) w12)) hT161 [(5, 58, (vI p)), (6, 59, (vP w.heap.size 7))] 2 127 (anyM_take (hw := show Chg (fun k => k = w5.heap.size) w12 w12 from (Chg.refl (fun k => k = w5.heap.size) w12)) hT161 7 255 (some 60) (vP w.heap.size (7 + p * 1)) (yld_val (Instr.indexAt 25 (vP w.heap.size 7) (vI p)) (fun w' hC => rn_ixa (E := 5) (sz := 1) (m := 4) (by omega))) (anyM_take (hw := show Chg (fun k => k = w5.heap.size) w12 w12 from (Chg.refl (fun k => k = w5.heap.size) w12)) hT161 8 511 (some 61) (vB (byt x.sd p)) (yld_val (Instr.loadAt 5 (vP w.heap.size (7 + p * 1))) (fun w' hC => rn_ld (((hB1.ext hEw12).chg hC (fun hs => by have h : _ = _ := hs; omega)).cell (nn_sd (by omega))))) ?_)))))
      refine anyM_run (hw := show Chg (fun k => k = w5.heap.size) w12 w12 from (Chg.refl (fun k => k = w5.heap.size) w12)) hT161 [(10, 63, (vP w5.heap.size 142))] 1 1535 (anyM_one 9 2047 (op_call (some 62) (c_mkE (byt x.st p) (byt x.sd p) _ (byt_lt _ _) (byt_lt _ _)) ?_))
      rintro _ w13 ⟨rfl, hEw13⟩
      have hzw13 := hEw13.size
      refine ⟨.inr ((Chg.refl (fun k => k = w5.heap.size) w12).trans hEw13.chg), ?_⟩
      refine anyM_take (hw := show Chg (fun k => k = w5.heap.size) w12 w13 from ((Chg.refl (fun k => k = w5.heap.size) w12).trans hEw13.chg)) hT161 11 4095 (some 64) (vP w5.heap.size (142 + p * 33)) (yld_val (Instr.indexAt 39 (vP w5.heap.size 142) (vI p)) (fun w' hC => rn_ixa (E := 38) (sz := 33) (m := 4) (by omega))) (anyM_one 12 8191 (op_store 38 w5.heap.size (142 + p * 33) 41 (vA (entC (mkE (byt x.st p) (byt x.sd p)))) (nodC (x.nod p)) (entC (mkE (byt x.st p) (byt x.sd p))) (((hB7.ext hEw12)).ext hEw13) (by rw [entC_len]; kernel_rfl) (by first | (simp; done) | (simp; omega)) (entC_one _) ?_))
      intro w14 hBw14 hCw14
      have hzw14 := hCw14.size
      rw [show (setFrom (nodC (x.nod p)) (142 + p * 33) (entC (mkE (byt x.st p) (byt x.sd p))) : List Value) = nodC ((x.nod p).setE p (mkE (byt x.st p) (byt x.sd p))) from nod_setE (by omega)] at hBw14
      refine ⟨.inr (Chg.then ((Chg.refl (fun k => k = w5.heap.size) w12).trans hEw13.chg) hCw14 (fun k hk hs => by have h : k = _ := hs; first | exact hs | (exfalso; omega))), ?_⟩
      refine anyM_done (inBlock_normal (then_code (wpC_region (wpF_run 1 [(37, (vI p))] (wpF_step (op_in (some 38) .i64 (IntKind.i64.wrap (((p : Nat) : Int) + ((1 : Nat) : Int))) (p + 1) (wrapS (by omega) (by omega) (by omega)) ?_))))))
      refine wpF_run 1 [(8, (vI (p + 1)))] (wpF_end (then_normal ?_))
      have hK6 := (((((hB1.ext hEw12)).ext hEw13)).chg hCw14 (fun hs => by have h : _ = _ := hs; omega))
      have hK7 := (((((hB3.ext hEw12)).ext hEw13)).chg hCw14 (fun hs => by have h : _ = _ := hs; omega))
      have hX3 : Ext w w14 := (Ext.own ((hEl.trans hEw12).trans hEw13) hCw14 (by omega))
      refine endR_mk (p + 1) ?_ ?_
      · exact ⟨by omega, hK6, hK7, (x.nod_setE (p := p) (by omega) (by omega)) ▸ hBw14, hX3⟩
      · first | omega | (dsimp only; omega)
  · replace hc36 : ¬ (p < x.p) := by have := of_d_f hc36; omega
    refine wpF_end (then_code (wpC_false (wpC_exit (then_exit (then_exit (inBlock_exit (then_code (wpC_seq (wpC_drawM (Chg (fun k => k = w1.heap.size) w8.drew) 4 [(66, 16, 0), (67, 128, 0), (3, 36893488147419103232, 1), (0, 73786976294838206472, 7)] (fun hT207 => ?_))))))))))
    have hEw15 : Ext w8 w8.drew := Ext.drew w8
    generalize w8.drew = w15 at hEw15 ⊢
    have hzw15 := hEw15.size
    refine anyM_run (hw := show Chg (fun k => k = w1.heap.size) w15 w15 from (Chg.refl (fun k => k = w1.heap.size) w15)) hT207 [(0, 65, (vI x.n))] 1 1 (anyM_take (hw := show Chg (fun k => k = w1.heap.size) w15 w15 from (Chg.refl (fun k => k = w1.heap.size) w15)) hT207 1 3 (some 66) (vA (nodC (x.nod p))) (yld_val (Instr.loadAt 41 (vP w5.heap.size 0)) (fun w' hC => rn_lda (vs := nodC (x.nod p)) (((hB7.ext hEw15).chg hC (fun hs => by have h : _ = _ := hs; omega)).all) (by rw [nodC_len]; kernel_rfl))) (anyM_run (hw := show Chg (fun k => k = w1.heap.size) w15 w15 from (Chg.refl (fun k => k = w1.heap.size) w15)) hT207 [(2, 2, (vI x.n))] 1 7 (anyM_one 3 15 (op_store 41 w1.heap.size 0 41 (vA (nodC (x.nod p))) (nodC Nod.zero) (nodC (x.nod p)) (hB3.ext hEw15) (by rw [nodC_len]; kernel_rfl) (by first | (simp; done) | (simp; omega)) (nodC_one _) ?_))))
    intro w16 hBw16 hCw16
    have hzw16 := hCw16.size
    rw [setFrom_all _ _ (by simp)] at hBw16
    refine ⟨.inl (by kernel_rfl), ?_⟩
    refine anyM_done (then_code (wpC_ret (body_ret2 (show resVal Tryd.prog 67 _ _ (.tmp 2) (vI x.n) by (show _ = _; kernel_rfl)) (show resVal Tryd.prog 67 _ _ (.cell 3 41) (vA (nodC (x.nod p))) from ⟨⟨w1.heap.size, 0, none⟩, (by kernel_rfl), run_loadVar_agg (T := 41) (vs := nodC (x.nod p)) (hBw16).all (by rw [nodC_len]; kernel_rfl)⟩) ?_)))
    obtain rfl : p = x.p := by omega
    exact ⟨rfl, (Ext.own (hEl.trans hEw15) hCw16 (by omega))⟩

theorem c_rNBytes0 (x : Nod)  (w : World) (hp0 : x.lv = 0) :
    Calls Tryd.prog 12 #[(vA (nodC x))] w (Ret fun r w' => ∃ a0 ca0, r = (.slice a0 185 ca0) ∧ Es u8v w.heap.size w'.heap.size w' a0 185 ca0 (nodB x) ∧ Ext w w') := by
  refine calls_of (n := 45) (σ := [(0, (vA (nodC x)))]) Tryd.func12 rfl ?_
  have hlvx := x.hlv
  have hixx := x.hix
  refine wpC_seq (wpC_region (wpF_step (op_new (some 1) (Instr.box 41 (vA (nodC x))) (vP w.heap.size 0) (nodC x) 41 ?_)))
  intro w1 hBw1 hEw1
  have hzw1 := hEw1.size; have hlw1 := hBw1.lt
  refine wpF_run 1 [(2, (.slice none 0 0))] (wpF_end (then_code (wpC_seq (wpC_region (wpF_run 1 [(5, (vP w.heap.size 0))] (wpF_step (op_v (some 6) (Instr.loadAt 5 (vP w.heap.size 0)) (vB x.lv) (rn_ld (hBw1.cell rfl)) ?_)))))))
  refine wpF_run 1 [(7, (vP w.heap.size 1))] (wpF_step (op_v (some 8) (Instr.loadAt 28 (vP w.heap.size 1)) (vW x.ix) (rn_ld (hBw1.cell rfl)) ?_))
  refine wpF_step (op_in (some 9) .u32 (((x.ix : Nat) : Int).fdiv (2 ^ 24)) (x.ix / 256 ^ 3) (fdivN _ _) ?_)
  refine wpF_step (op_in (some 10) .u8 (IntKind.u8.wrap ((x.ix / 256 ^ 3 : Nat) : Int)) ((x.ix / 256 ^ 3) % 2 ^ 8) (wrapU rfl rfl) ?_)
  refine wpF_run 1 [(11, (vP w.heap.size 1))] (wpF_step (op_v (some 12) (Instr.loadAt 28 (vP w.heap.size 1)) (vW x.ix) (rn_ld (hBw1.cell rfl)) ?_))
  refine wpF_step (op_in (some 13) .u32 (((x.ix : Nat) : Int).fdiv (2 ^ 16)) (x.ix / 256 ^ 2) (fdivN _ _) ?_)
  refine wpF_step (op_in (some 14) .u8 (IntKind.u8.wrap ((x.ix / 256 ^ 2 : Nat) : Int)) ((x.ix / 256 ^ 2) % 2 ^ 8) (wrapU rfl rfl) ?_)
  refine wpF_run 1 [(15, (vP w.heap.size 1))] (wpF_step (op_v (some 16) (Instr.loadAt 28 (vP w.heap.size 1)) (vW x.ix) (rn_ld (hBw1.cell rfl)) ?_))
  refine wpF_step (op_in (some 17) .u32 (((x.ix : Nat) : Int).fdiv (2 ^ 8)) (x.ix / 256 ^ 1) (fdivN _ _) ?_)
  refine wpF_step (op_in (some 18) .u8 (IntKind.u8.wrap ((x.ix / 256 ^ 1 : Nat) : Int)) ((x.ix / 256 ^ 1) % 2 ^ 8) (wrapU rfl rfl) ?_)
  refine wpF_run 1 [(19, (vP w.heap.size 1))] (wpF_step (op_v (some 20) (Instr.loadAt 28 (vP w.heap.size 1)) (vW x.ix) (rn_ld (hBw1.cell rfl)) ?_))
  refine wpF_step (op_in (some 21) .u8 (IntKind.u8.wrap ((x.ix : Nat) : Int)) (x.ix % 2 ^ 8) (wrapU rfl rfl) ?_)
  refine wpF_step (op_new (some 22) (Instr.buildSlice 44 5 #[(0, (vB x.lv)), (1, (vB ((x.ix / 256 ^ 3) % 2 ^ 8))), (2, (vB ((x.ix / 256 ^ 2) % 2 ^ 8))), (3, (vB ((x.ix / 256 ^ 1) % 2 ^ 8))), (4, (vB (x.ix % 2 ^ 8)))]) (.slice (pA w1.heap.size 0) 5 5) [(vB x.lv), (vB ((x.ix / 256 ^ 3) % 2 ^ 8)), (vB ((x.ix / 256 ^ 2) % 2 ^ 8)), (vB ((x.ix / 256 ^ 1) % 2 ^ 8)), (vB (x.ix % 2 ^ 8))] 5 ?_)
  intro w2 hBw2 hEw2
  have hzw2 := hEw2.size; have hlw2 := hBw2.lt
  have hSw2 : Bs w1.heap.size (w1.heap.size + 1) w2 (pA w1.heap.size 0) 5 5 [UInt8.ofNat x.lv, UInt8.ofNat ((x.ix / 256 ^ 3) % 2 ^ 8), UInt8.ofNat ((x.ix / 256 ^ 2) % 2 ^ 8), UInt8.ofNat ((x.ix / 256 ^ 1) % 2 ^ 8), UInt8.ofNat (x.ix % 2 ^ 8)] := Bs.of_blk hBw2 (hed_cells x) rfl (Nat.le_refl _) (by decide) (Nat.le_refl _) (Nat.lt_succ_self _)
  refine wpF_run 1 [(3, (.slice (pA w1.heap.size 0) 5 5))] (wpF_end (then_code (wpC_seq (wpC_seq (wpC_region (wpF_run 1 [(4, (vI 0))] (wpF_end (then_code (wpC_block ?_)))))))))
  have hO1 : Cs.Own u8v w1.heap.size (w1.heap.size + 1) w2 (pA w1.heap.size 0) 5 5 5 ([UInt8.ofNat x.lv, UInt8.ofNat ((x.ix / 256 ^ 3) % 2 ^ 8), UInt8.ofNat ((x.ix / 256 ^ 2) % 2 ^ 8), UInt8.ofNat ((x.ix / 256 ^ 1) % 2 ^ 8), UInt8.ofNat (x.ix % 2 ^ 8)]) := Cs.Own.of_blk hBw2 (by simp) (by first | rfl | exact (hed_cells x)) hSw2.len_eq (Nat.le_refl _) (by simp only [maxLen]; omega) (Nat.le_refl _) (Nat.lt_succ_self _)
  refine wpC_loop (X := Nat × Option Addr × Nat) (fun ⟨i, p, cp⟩ => [(3, (.slice p (5 + 45 * i) cp)), (4, (vI i))]) [23, 24, 25, 26, 27, 28, 29, 30, 31, 32, 33, 34, 35, 36, 37, 38, 39, 40, 41, 42, 43] (fun ⟨i, p, cp⟩ w3 => i ≤ 4 ∧ Cs.Own u8v w1.heap.size w3.heap.size w3 p (5 + 45 * i) cp 5 (hedB x ++ catA recB x.rs.get i) ∧ Ext w1 w3) (fun ⟨i, p, cp⟩ => 4 - i) (0, (pA w1.heap.size 0), 5) (by kernel_rfl) ⟨by omega, by have hz := (hO1).now; rw [hed_l] at hz; rw [catA, List.append_nil]; exact hz.mono (by omega) (Nat.le_refl _), hEw2⟩ ?_
  rintro ⟨i, p, cp⟩ dw3 w3 ⟨hi, hO, hEl⟩
  have hzl := hEl.size
  have hle := hO.es.le
  refine wpC_seq (wpC_seq (wpC_region (wpF_run 1 [(23, (vI i))] (wpF_step (op_split (some 24) (decide (((i : Nat) : Int) < ((4 : Nat) : Int))) (fun hc24 => ?_) (fun hc24 => ?_))))))
  · replace hc24 : i < 4 := by have := of_d_t hc24; omega
    refine wpF_end (then_code (wpC_true (wpC_skip (then_code (wpC_seq (wpC_block (wpC_seq (wpC_region (wpF_run 1 [(27, (vP w.heap.size 0))] ?_)))))))))
    refine wpF_step (op_v (some 28) (Instr.loadAt 5 (vP w.heap.size 0)) (vB x.lv) (rn_ld ((hBw1.ext hEl).cell rfl)) ?_)
    refine wpF_step (op_b (some 29) (((x.lv : Nat) : Int) == ((0 : Nat) : Int)) true (cmpEqT (by omega)) ?_)
    refine wpF_end (then_code (wpC_true (wpC_region (wpF_run 3 [(32, (vP w.heap.size 2)), (31, (vI i)), (30, (.slice p (5 + 45 * i) cp))] (wpF_step (op_v (some 33) (Instr.indexAt 36 (vP w.heap.size 2) (vI i)) (vP w.heap.size (2 + i * 35)) (rn_ixa (E := 35) (sz := 35) (m := 4) (by omega)) ?_))))))
    refine wpF_step (op_v (some 34) (Instr.loadAt 35 (vP w.heap.size (2 + i * 35))) (vA (recC (x.rs.get i))) (rn_lda (vs := recC (x.rs.get i)) ((hBw1.ext hEl).at (2 + i * 35) (recC (x.rs.get i)) (nod_r (by omega))) (by rw [recC_len]; kernel_rfl)) ?_)
    refine wpF_step (op_call (some 35) (c_rRecord (x.rs.get i) _) ?_)
    rintro _ w4 ⟨a1, ca1, rfl, hFz1_0, hEw4⟩
    have hzw4 := hEw4.size
    have hlea1 := hFz1_0.le
    have hba1 := hFz1_0.bs
    refine wpF_step (op_append (some 36) 44 44 5 1 (.int .u8 0) (hO.ext hEw4) hba1.es (fun _ => rfl) ?_)
    intro a2 c1 w5 hOw5 hCw5
    have hzw5 := hCw5.size
    have hSw5 := hOw5.bs
    refine wpF_run 1 [(3, (.slice a2 (5 + 45 * i + 45) c1))] (wpF_end (inBlock_normal (then_code (wpC_region (wpF_run 1 [(25, (vI i))] (wpF_step (op_in (some 26) .i64 (IntKind.i64.wrap (((i : Nat) : Int) + ((1 : Nat) : Int))) (i + 1) (wrapS (by omega) (by omega) (by omega)) ?_)))))))
    refine wpF_run 1 [(4, (vI (i + 1)))] (wpF_end (then_normal ?_))
    rw [show 5 + 45 * i + 45 = 5 + 45 * (i + 1) from by omega]
    refine endR_mk (i + 1, a2, c1) ?_ ?_
    · exact ⟨by omega, by have hz := hOw5; rw [List.append_assoc] at hz; exact (show 5 + 45 * i + 45 = 5 + 45 * (i + 1) from by omega) ▸ hz, (Ext.ownS (hEl.trans hEw4) hCw5 (fun k hs hk => by have hn := (hO.ext hEw4).ne hs; omega))⟩
    · first | omega | (dsimp only; omega)
  · replace hc24 : ¬ (i < 4) := by have := of_d_f hc24; omega
    refine wpF_end (then_code (wpC_false (wpC_exit (then_exit (then_exit (inBlock_exit (then_code (wpC_seq (wpC_region ?_)))))))))
    refine wpF_run 2 [(2, (.slice p (5 + 45 * i) cp)), (44, (.slice p (5 + 45 * i) cp))] (wpF_end (then_code (wpC_ret (body_rets (.slice p (5 + 45 * i) cp) ?_))))
    obtain rfl : i = 4 := by omega
    rw [show nodB x = hedB x ++ catA recB x.rs.get 4 from by unfold nodB; rw [if_pos hp0]]
    exact ⟨_, _, rfl, (hO).es.mono (by omega) (Nat.le_refl _), (hEw1.trans hEl)⟩

theorem c_rNBytes1 (x : Nod)  (w : World) (hp0 : ¬ x.lv = 0) :
    Calls Tryd.prog 12 #[(vA (nodC x))] w (Ret fun r w' => ∃ a0 ca0, r = (.slice a0 137 ca0) ∧ Es u8v w.heap.size w'.heap.size w' a0 137 ca0 (nodB x) ∧ Ext w w') := by
  refine calls_of (n := 45) (σ := [(0, (vA (nodC x)))]) Tryd.func12 rfl ?_
  have hlvx := x.hlv
  have hixx := x.hix
  refine wpC_seq (wpC_region (wpF_step (op_new (some 1) (Instr.box 41 (vA (nodC x))) (vP w.heap.size 0) (nodC x) 41 ?_)))
  intro w1 hBw1 hEw1
  have hzw1 := hEw1.size; have hlw1 := hBw1.lt
  refine wpF_run 1 [(2, (.slice none 0 0))] (wpF_end (then_code (wpC_seq (wpC_region (wpF_run 1 [(5, (vP w.heap.size 0))] (wpF_step (op_v (some 6) (Instr.loadAt 5 (vP w.heap.size 0)) (vB x.lv) (rn_ld (hBw1.cell rfl)) ?_)))))))
  refine wpF_run 1 [(7, (vP w.heap.size 1))] (wpF_step (op_v (some 8) (Instr.loadAt 28 (vP w.heap.size 1)) (vW x.ix) (rn_ld (hBw1.cell rfl)) ?_))
  refine wpF_step (op_in (some 9) .u32 (((x.ix : Nat) : Int).fdiv (2 ^ 24)) (x.ix / 256 ^ 3) (fdivN _ _) ?_)
  refine wpF_step (op_in (some 10) .u8 (IntKind.u8.wrap ((x.ix / 256 ^ 3 : Nat) : Int)) ((x.ix / 256 ^ 3) % 2 ^ 8) (wrapU rfl rfl) ?_)
  refine wpF_run 1 [(11, (vP w.heap.size 1))] (wpF_step (op_v (some 12) (Instr.loadAt 28 (vP w.heap.size 1)) (vW x.ix) (rn_ld (hBw1.cell rfl)) ?_))
  refine wpF_step (op_in (some 13) .u32 (((x.ix : Nat) : Int).fdiv (2 ^ 16)) (x.ix / 256 ^ 2) (fdivN _ _) ?_)
  refine wpF_step (op_in (some 14) .u8 (IntKind.u8.wrap ((x.ix / 256 ^ 2 : Nat) : Int)) ((x.ix / 256 ^ 2) % 2 ^ 8) (wrapU rfl rfl) ?_)
  refine wpF_run 1 [(15, (vP w.heap.size 1))] (wpF_step (op_v (some 16) (Instr.loadAt 28 (vP w.heap.size 1)) (vW x.ix) (rn_ld (hBw1.cell rfl)) ?_))
  refine wpF_step (op_in (some 17) .u32 (((x.ix : Nat) : Int).fdiv (2 ^ 8)) (x.ix / 256 ^ 1) (fdivN _ _) ?_)
  refine wpF_step (op_in (some 18) .u8 (IntKind.u8.wrap ((x.ix / 256 ^ 1 : Nat) : Int)) ((x.ix / 256 ^ 1) % 2 ^ 8) (wrapU rfl rfl) ?_)
  refine wpF_run 1 [(19, (vP w.heap.size 1))] (wpF_step (op_v (some 20) (Instr.loadAt 28 (vP w.heap.size 1)) (vW x.ix) (rn_ld (hBw1.cell rfl)) ?_))
  refine wpF_step (op_in (some 21) .u8 (IntKind.u8.wrap ((x.ix : Nat) : Int)) (x.ix % 2 ^ 8) (wrapU rfl rfl) ?_)
  refine wpF_step (op_new (some 22) (Instr.buildSlice 44 5 #[(0, (vB x.lv)), (1, (vB ((x.ix / 256 ^ 3) % 2 ^ 8))), (2, (vB ((x.ix / 256 ^ 2) % 2 ^ 8))), (3, (vB ((x.ix / 256 ^ 1) % 2 ^ 8))), (4, (vB (x.ix % 2 ^ 8)))]) (.slice (pA w1.heap.size 0) 5 5) [(vB x.lv), (vB ((x.ix / 256 ^ 3) % 2 ^ 8)), (vB ((x.ix / 256 ^ 2) % 2 ^ 8)), (vB ((x.ix / 256 ^ 1) % 2 ^ 8)), (vB (x.ix % 2 ^ 8))] 5 ?_)
  intro w2 hBw2 hEw2
  have hzw2 := hEw2.size; have hlw2 := hBw2.lt
  have hSw2 : Bs w1.heap.size (w1.heap.size + 1) w2 (pA w1.heap.size 0) 5 5 [UInt8.ofNat x.lv, UInt8.ofNat ((x.ix / 256 ^ 3) % 2 ^ 8), UInt8.ofNat ((x.ix / 256 ^ 2) % 2 ^ 8), UInt8.ofNat ((x.ix / 256 ^ 1) % 2 ^ 8), UInt8.ofNat (x.ix % 2 ^ 8)] := Bs.of_blk hBw2 (hed_cells x) rfl (Nat.le_refl _) (by decide) (Nat.le_refl _) (Nat.lt_succ_self _)
  refine wpF_run 1 [(3, (.slice (pA w1.heap.size 0) 5 5))] (wpF_end (then_code (wpC_seq (wpC_seq (wpC_region (wpF_run 1 [(4, (vI 0))] (wpF_end (then_code (wpC_block ?_)))))))))
  have hO1 : Cs.Own u8v w1.heap.size (w1.heap.size + 1) w2 (pA w1.heap.size 0) 5 5 5 ([UInt8.ofNat x.lv, UInt8.ofNat ((x.ix / 256 ^ 3) % 2 ^ 8), UInt8.ofNat ((x.ix / 256 ^ 2) % 2 ^ 8), UInt8.ofNat ((x.ix / 256 ^ 1) % 2 ^ 8), UInt8.ofNat (x.ix % 2 ^ 8)]) := Cs.Own.of_blk hBw2 (by simp) (by first | rfl | exact (hed_cells x)) hSw2.len_eq (Nat.le_refl _) (by simp only [maxLen]; omega) (Nat.le_refl _) (Nat.lt_succ_self _)
  refine wpC_loop (X := Nat × Option Addr × Nat) (fun ⟨i, p, cp⟩ => [(3, (.slice p (5 + 33 * i) cp)), (4, (vI i))]) [23, 24, 25, 26, 27, 28, 29, 30, 31, 32, 33, 34, 35, 36, 37, 38, 39, 40, 41, 42, 43] (fun ⟨i, p, cp⟩ w3 => i ≤ 4 ∧ Cs.Own u8v w1.heap.size w3.heap.size w3 p (5 + 33 * i) cp 5 (hedB x ++ catA entB x.es.get i) ∧ Ext w1 w3) (fun ⟨i, p, cp⟩ => 4 - i) (0, (pA w1.heap.size 0), 5) (by kernel_rfl) ⟨by omega, by have hz := (hO1).now; rw [hed_l] at hz; rw [catA, List.append_nil]; exact hz.mono (by omega) (Nat.le_refl _), hEw2⟩ ?_
  rintro ⟨i, p, cp⟩ dw3 w3 ⟨hi, hO, hEl⟩
  have hzl := hEl.size
  have hle := hO.es.le
  refine wpC_seq (wpC_seq (wpC_region (wpF_run 1 [(23, (vI i))] (wpF_step (op_split (some 24) (decide (((i : Nat) : Int) < ((4 : Nat) : Int))) (fun hc24 => ?_) (fun hc24 => ?_))))))
  · replace hc24 : i < 4 := by have := of_d_t hc24; omega
    refine wpF_end (then_code (wpC_true (wpC_skip (then_code (wpC_seq (wpC_block (wpC_seq (wpC_region (wpF_run 1 [(27, (vP w.heap.size 0))] ?_)))))))))
    refine wpF_step (op_v (some 28) (Instr.loadAt 5 (vP w.heap.size 0)) (vB x.lv) (rn_ld ((hBw1.ext hEl).cell rfl)) ?_)
    refine wpF_step (op_b (some 29) (((x.lv : Nat) : Int) == ((0 : Nat) : Int)) false (cmpEqF (by omega)) ?_)
    refine wpF_end (then_code (wpC_false (wpC_region (wpF_run 3 [(39, (vP w.heap.size 142)), (38, (vI i)), (37, (.slice p (5 + 33 * i) cp))] (wpF_step (op_v (some 40) (Instr.indexAt 39 (vP w.heap.size 142) (vI i)) (vP w.heap.size (142 + i * 33)) (rn_ixa (E := 38) (sz := 33) (m := 4) (by omega)) ?_))))))
    refine wpF_step (op_v (some 41) (Instr.loadAt 38 (vP w.heap.size (142 + i * 33))) (vA (entC (x.es.get i))) (rn_lda (vs := entC (x.es.get i)) ((hBw1.ext hEl).at (142 + i * 33) (entC (x.es.get i)) (nod_e (by omega))) (by rw [entC_len]; kernel_rfl)) ?_)
    refine wpF_step (op_call (some 42) (c_rEntry (x.es.get i) _) ?_)
    rintro _ w4 ⟨a1, ca1, rfl, hFz1_0, hEw4⟩
    have hzw4 := hEw4.size
    have hlea1 := hFz1_0.le
    have hba1 := hFz1_0.bs
    refine wpF_step (op_append (some 43) 44 44 5 1 (.int .u8 0) (hO.ext hEw4) hba1.es (fun _ => rfl) ?_)
    intro a2 c1 w5 hOw5 hCw5
    have hzw5 := hCw5.size
    have hSw5 := hOw5.bs
    refine wpF_run 1 [(3, (.slice a2 (5 + 33 * i + 33) c1))] (wpF_end (inBlock_normal (then_code (wpC_region (wpF_run 1 [(25, (vI i))] (wpF_step (op_in (some 26) .i64 (IntKind.i64.wrap (((i : Nat) : Int) + ((1 : Nat) : Int))) (i + 1) (wrapS (by omega) (by omega) (by omega)) ?_)))))))
    refine wpF_run 1 [(4, (vI (i + 1)))] (wpF_end (then_normal ?_))
    rw [show 5 + 33 * i + 33 = 5 + 33 * (i + 1) from by omega]
    refine endR_mk (i + 1, a2, c1) ?_ ?_
    · exact ⟨by omega, by have hz := hOw5; rw [List.append_assoc] at hz; exact (show 5 + 33 * i + 33 = 5 + 33 * (i + 1) from by omega) ▸ hz, (Ext.ownS (hEl.trans hEw4) hCw5 (fun k hs hk => by have hn := (hO.ext hEw4).ne hs; omega))⟩
    · first | omega | (dsimp only; omega)
  · replace hc24 : ¬ (i < 4) := by have := of_d_f hc24; omega
    refine wpF_end (then_code (wpC_false (wpC_exit (then_exit (then_exit (inBlock_exit (then_code (wpC_seq (wpC_region ?_)))))))))
    refine wpF_run 2 [(2, (.slice p (5 + 33 * i) cp)), (44, (.slice p (5 + 33 * i) cp))] (wpF_end (then_code (wpC_ret (body_rets (.slice p (5 + 33 * i) cp) ?_))))
    obtain rfl : i = 4 := by omega
    rw [show nodB x = hedB x ++ catA entB x.es.get 4 from by unfold nodB; rw [if_neg hp0]]
    exact ⟨_, _, rfl, (hO).es.mono (by omega) (Nat.le_refl _), (hEw1.trans hEl)⟩

theorem c_rNBytes (x : Nod)  (w : World)  :
    Calls Tryd.prog 12 #[(vA (nodC x))] w (Ret fun r w' => ∃ a0 ca0, r = (.slice a0 (nodL x) ca0) ∧ Es u8v w.heap.size w'.heap.size w' a0 (nodL x) ca0 (nodB x) ∧ Ext w w') := by
  by_cases h : x.lv = 0
  · rw [show nodL x = 185 from if_pos h]; exact c_rNBytes0 x w h
  · rw [show nodL x = 137 from if_neg h]; exact c_rNBytes1 x w h

end Go.Proofs.YtpcbhalagllhnaaDoor
