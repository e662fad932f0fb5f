/- CsN6: what each function does, by its own code. No condition beyond those of each statement. -/
import Derived.Test.YtpcbhalagllhnaaDoorCsN5
import Derived.Test.YtpcbhalagllhnaaDoorCsNod2
namespace Go.Proofs.YtpcbhalagllhnaaDoor
open Go Go.RowKit Go.Cs
set_option maxRecDepth 100000
set_option linter.all false
set_option linter.unusedVariables false

theorem c_NGet0 {lo_b hi_b : Nat} {a_b : Option Addr} {n_b c_b : Nat} {b : List UInt8}  (w : World) (h_b : Bs lo_b hi_b w a_b n_b c_b b) (hp0 : byt b 0 = 0) (hg0 : Gl 0 [vI 45, vI 33] w) :
    Calls Tryd.prog 14 #[(.slice a_b n_b c_b)] w (Ret fun r w' => r = (.tuple #[(vA (nodC (getN b))), (vI (getNE b))]) ∧ Ext w w') := by
  refine calls_of (n := 93) (σ := [(0, (.slice a_b n_b c_b))]) Tryd.func14 rfl ?_
  replace h_b := h_b.now; have hle_b := h_b.le
  have hgl0 := hg0.lt
  have hlen := h_b.len_eq
  have hsz : sizL b = 185 := by unfold sizL; rw [if_pos hp0]
  refine wpC_seq (wpC_region (wpF_step (op_new (some 2) (Instr.alloc 41 true (.tuple #[])) (vP w.heap.size 0) (nodC Nod.zero) 41 ?_)))
  intro w1 hBw1 hEw1
  have hzw1 := hEw1.size; have hlw1 := hBw1.lt
  refine wpF_run 1 [(3, (vI 0))] (wpF_end (then_code (wpC_seq (wpC_block (wpC_seq (wpC_region (wpF_run 2 [(10, (vI n_b)), (9, (.slice a_b n_b c_b))] (wpF_step (op_split (some 11) ((((n_b : Nat) : Int) == ((0 : Nat) : Int))) (fun hc11 => ?_) (fun hc11 => ?_))))))))))
  · replace hc11 : n_b = 0 := by have := of_eq_t hc11; omega
    skip
    refine wpF_run 1 [(8, vT)] (wpF_end (then_code (wpC_true (wpC_seq (wpC_region (wpF_step (op_v (some 12) (Instr.loadAt 41 (vP w.heap.size 0)) (vA (nodC Nod.zero)) (rn_lda (vs := nodC Nod.zero) (hBw1.all) (by rw [nodC_len]; kernel_rfl)) ?_)))))))
    refine wpF_step (op_store 41 w.heap.size 0 41 (vA (nodC Nod.zero)) (nodC Nod.zero) (nodC Nod.zero) hBw1 (by rw [nodC_len]; kernel_rfl) (by first | (simp; done) | (simp; omega)) (nodC_one _) ?_)
    intro w2 hBw2 hCw2
    have hzw2 := hCw2.size
    rw [setFrom_all _ _ (by simp)] at hBw2
    refine wpF_run 1 [(3, (vI 6))] (wpF_end (then_code (wpC_ret (inBlock_ret (then_ret (body_ret2 (show resVal Tryd.prog 93 _ _ (.cell 2 41) (vA (nodC Nod.zero)) from ⟨⟨w.heap.size, 0, none⟩, (by kernel_rfl), run_loadVar_agg (T := 41) (vs := nodC Nod.zero) (hBw2).all (by rw [nodC_len]; kernel_rfl)⟩) (show resVal Tryd.prog 93 _ _ (.tmp 3) (vI 6) by (show _ = _; kernel_rfl)) ?_))))))
    have hne : getNE b = 6 := getNE_nil (by have := h_b.len_eq; omega)
    rw [getN_of hne, hne]
    exact ⟨rfl, (Ext.own hEw1 hCw2 (by omega))⟩
  · replace hc11 : ¬ (n_b = 0) := by have := of_eq_f hc11; omega
    refine wpF_run 1 [(8, vF)] (wpF_end (then_code (wpC_false (wpC_seq (wpC_region (wpF_run 1 [(14, (.slice a_b n_b c_b))] ?_))))))
    obtain ⟨b1, o1, rfl⟩ := h_b.addr (by omega)
    refine wpF_step (op_v (some 15) (Instr.indexAt 44 (.slice (pA b1 o1) n_b c_b) (vI 0)) (vP b1 (o1 + 0 * 1)) (rn_ixs (E := 5) (sz := 1) (by omega)) ?_)
    refine wpF_step (op_v (some 16) (Instr.loadAt 5 (vP b1 (o1 + 0 * 1))) (vB (byt b 0)) (rn_ld ((h_b.ext hEw1).cell1 (by omega))) ?_)
    refine wpF_step (op_b (some 17) (decide (((byt b 0 : Nat) : Int) > ((5 : Nat) : Int))) false (cmpDF (by omega)) ?_)
    refine wpF_run 1 [(13, vF)] (wpF_end (then_code (wpC_false (wpC_skip (inBlock_normal (then_code (wpC_seq (wpC_region (wpF_run 1 [(19, (.slice (pA b1 o1) n_b c_b))] ?_)))))))))
    refine wpF_step (op_v (some 20) (Instr.indexAt 44 (.slice (pA b1 o1) n_b c_b) (vI 0)) (vP b1 (o1 + 0 * 1)) (rn_ixs (E := 5) (sz := 1) (by omega)) ?_)
    refine wpF_step (op_v (some 21) (Instr.loadAt 5 (vP b1 (o1 + 0 * 1))) (vB (byt b 0)) (rn_ld ((h_b.ext hEw1).cell1 (by omega))) ?_)
    refine wpF_step (op_call (some 22) (c_kind (byt b 0) _) ?_)
    rintro _ _ ⟨rfl, rfl⟩
    rw [show min (byt b 0) 1 = 0 from by omega]
    refine wpF_run 1 [(4, (vI 0))] (wpF_end (then_code (wpC_seq (wpC_seq (wpC_region (wpF_run 1 [(23, (vI 0))] (wpF_step (op_v (some 24) (Instr.indexAt 76 (vP 0 0) (vI 0)) (vP 0 0) (rn_ixa (E := 3) (sz := 1) (m := 2) (by omega)) ?_))))))))
    refine wpF_step (op_v (some 25) (Instr.loadAt 3 (vP 0 0)) (vI 45) (rn_ld ((hg0.ext hEw1).all.one 0 (vI 45) rfl)) ?_)
    refine wpF_step (op_in (some 26) .i64 (IntKind.i64.wrap (((4 : Nat) : Int) * ((45 : Nat) : Int))) 180 (wrapS (by omega) (by omega) (by omega)) ?_)
    refine wpF_step (op_in (some 27) .i64 (IntKind.i64.wrap (((5 : Nat) : Int) + ((180 : Nat) : Int))) 185 (wrapS (by omega) (by omega) (by omega)) ?_)
    refine wpF_run 1 [(5, (vI 185))] (wpF_end (then_code (wpC_block (wpC_seq (wpC_region (wpF_run 3 [(31, (vI 185)), (30, (vI n_b)), (29, (.slice (pA b1 o1) n_b c_b))] (wpF_step (op_split (some 32) (decide (((n_b : Nat) : Int) < ((185 : Nat) : Int))) (fun hc32 => ?_) (fun hc32 => ?_)))))))))
    · replace hc32 : n_b < 185 := by have := of_d_t hc32; omega
      refine wpF_run 1 [(28, vT)] (wpF_end (then_code (wpC_true (wpC_seq (wpC_region (wpF_step (op_v (some 33) (Instr.loadAt 41 (vP w.heap.size 0)) (vA (nodC Nod.zero)) (rn_lda (vs := nodC Nod.zero) (hBw1.all) (by rw [nodC_len]; kernel_rfl)) ?_)))))))
      refine wpF_step (op_store 41 w.heap.size 0 41 (vA (nodC Nod.zero)) (nodC Nod.zero) (nodC Nod.zero) hBw1 (by rw [nodC_len]; kernel_rfl) (by first | (simp; done) | (simp; omega)) (nodC_one _) ?_)
      intro w3 hBw3 hCw3
      have hzw3 := hCw3.size
      rw [setFrom_all _ _ (by simp)] at hBw3
      refine wpF_run 1 [(3, (vI 6))] (wpF_end (then_code (wpC_ret (inBlock_ret (then_ret (body_ret2 (show resVal Tryd.prog 93 _ _ (.cell 2 41) (vA (nodC Nod.zero)) from ⟨⟨w.heap.size, 0, none⟩, (by kernel_rfl), run_loadVar_agg (T := 41) (vs := nodC Nod.zero) (hBw3).all (by rw [nodC_len]; kernel_rfl)⟩) (show resVal Tryd.prog 93 _ _ (.tmp 3) (vI 6) by (show _ = _; kernel_rfl)) ?_))))))
      have hne : getNE b = 6 := getNE_short (by omega) (by rw [hsz]; have := h_b.len_eq; omega)
      rw [getN_of hne, hne]
      exact ⟨rfl, (Ext.own hEw1 hCw3 (by omega))⟩
    · replace hc32 : ¬ (n_b < 185) := by have := of_d_f hc32; omega
      refine wpF_run 1 [(28, vF)] (wpF_end (then_code (wpC_false (wpC_seq (wpC_region (wpF_run 3 [(37, (vI 185)), (36, (vI n_b)), (35, (.slice (pA b1 o1) n_b c_b))] (wpF_step (op_split (some 38) (decide (((n_b : Nat) : Int) > ((185 : Nat) : Int))) (fun hc38 => ?_) (fun hc38 => ?_)))))))))
      · replace hc38 : n_b > 185 := by have := of_d_t hc38; omega
        refine wpF_run 1 [(34, vT)] (wpF_end (then_code (wpC_true (wpC_seq (wpC_region (wpF_step (op_v (some 39) (Instr.loadAt 41 (vP w.heap.size 0)) (vA (nodC Nod.zero)) (rn_lda (vs := nodC Nod.zero) (hBw1.all) (by rw [nodC_len]; kernel_rfl)) ?_)))))))
        refine wpF_step (op_store 41 w.heap.size 0 41 (vA (nodC Nod.zero)) (nodC Nod.zero) (nodC Nod.zero) hBw1 (by rw [nodC_len]; kernel_rfl) (by first | (simp; done) | (simp; omega)) (nodC_one _) ?_)
        intro w4 hBw4 hCw4
        have hzw4 := hCw4.size
        rw [setFrom_all _ _ (by simp)] at hBw4
        refine wpF_run 1 [(3, (vI 5))] (wpF_end (then_code (wpC_ret (inBlock_ret (then_ret (body_ret2 (show resVal Tryd.prog 93 _ _ (.cell 2 41) (vA (nodC Nod.zero)) from ⟨⟨w.heap.size, 0, none⟩, (by kernel_rfl), run_loadVar_agg (T := 41) (vs := nodC Nod.zero) (hBw4).all (by rw [nodC_len]; kernel_rfl)⟩) (show resVal Tryd.prog 93 _ _ (.tmp 3) (vI 5) by (show _ = _; kernel_rfl)) ?_))))))
        have hne : getNE b = 5 := getNE_long (by omega) (by rw [hsz]; have := h_b.len_eq; omega)
        rw [getN_of hne, hne]
        exact ⟨rfl, (Ext.own hEw1 hCw4 (by omega))⟩
      · replace hc38 : ¬ (n_b > 185) := by have := of_d_f hc38; omega
        refine wpF_run 1 [(34, vF)] (wpF_end (then_code (wpC_false (wpC_skip (inBlock_normal (then_code (wpC_seq (wpC_region (wpF_run 1 [(40, (.slice (pA b1 o1) n_b c_b))] ?_)))))))))
        refine wpF_step (op_v (some 41) (Instr.indexAt 44 (.slice (pA b1 o1) n_b c_b) (vI 0)) (vP b1 (o1 + 0 * 1)) (rn_ixs (E := 5) (sz := 1) (by omega)) ?_)
        refine wpF_step (op_v (some 42) (Instr.loadAt 5 (vP b1 (o1 + 0 * 1))) (vB (byt b 0)) (rn_ld ((h_b.ext hEw1).cell1 (by omega))) ?_)
        refine wpF_run 1 [(43, (vP w.heap.size 0))] (wpF_step (op_store1 5 w.heap.size 0 41 (vB (byt b 0)) (nodC Nod.zero) hBw1 (by first | decide | (simp; done) | (simp; omega)) ?_))
        intro w5 hBw5 hCw5
        have hzw5 := hCw5.size
        rw [show ((nodC Nod.zero).set 0 (vB (byt b 0)) : List Value) = nodC (Nod.zero.setLv (byt b 0) (byt_lt _ _)) from nod_setLv (byt_lt _ _)] at hBw5
        refine wpF_end (then_code (wpC_seq (wpC_region (wpF_run 1 [(45, (.slice (pA b1 o1) n_b c_b))] ?_))))
        obtain ⟨a1, hR1, hS1⟩ := (((h_b.ext hEw1)).chg hCw5 (fun k h1 h2 hs => by have h : k = _ := hs; omega)).slice Tryd.prog 44 5 1 5 c_b (some (vI 1)) (some (vI 5)) none
        refine wpF_step (op_v (some 46) (Instr.sliceAt 44 (.slice (pA b1 o1) n_b c_b) (some (vI 1)) (some (vI 5)) none) (.slice a1 (5 - 1) (c_b - 1)) (hR1 _) ?_)
        refine wpF_step (op_call (some 47) (c_Get32 _ hS1) ?_)
        rintro _ _ ⟨rfl, rfl⟩
        rw [show (b.drop 1).take (5 - 1) = (b.drop 1).take 4 from rfl]
        refine wpF_run 4 [(50, (vP w.heap.size 1)), (49, (vI (getE ((b.drop 1).take 4) 4))), (48, (vW (getV ((b.drop 1).take 4) 4))), (44, (.tuple #[(vW (getV ((b.drop 1).take 4) 4)), (vI (getE ((b.drop 1).take 4) 4))]))] (wpF_step (op_store1 28 w.heap.size 1 41 (vW (getV ((b.drop 1).take 4) 4)) (nodC (Nod.zero.setLv (byt b 0) (byt_lt _ _))) hBw5 (by first | decide | (simp; done) | (simp; omega)) ?_))
        intro w6 hBw6 hCw6
        have hzw6 := hCw6.size
        rw [show ((nodC (Nod.zero.setLv (byt b 0) (byt_lt _ _))).set 1 (vW (getV ((b.drop 1).take 4) 4)) : List Value) = nodC ((Nod.zero.setLv (byt b 0) (byt_lt _ _)).setIx (getV ((b.drop 1).take 4) 4) (getV_lt _ 4)) from nod_setIx (getV_lt _ 4)] at hBw6
        refine wpF_end (then_code (wpC_seq (wpC_seq (wpC_region (wpF_run 1 [(51, (vI 0))] (wpF_end (then_code (wpC_block (wpC_loop (X := Nat) (fun i => [(51, (vI i))]) [3, 6, 7, 52, 53, 54, 55, 56, 57, 58, 59, 60, 61, 62, 63, 64, 65, 66, 67, 68, 69, 70, 71, 72, 73, 74, 75, 76, 77, 78, 79, 80, 81, 82, 83, 84, 85, 86, 87, 88, 89, 90, 91] (fun i w7 => i ≤ 4 ∧ ckL b i = 0 ∧ Blk w7 w.heap.size (nodC (preN b i)) 41 ∧ Ext w w7) (fun i => 4 - i) 0 (by kernel_rfl) ⟨by omega, ckL_zero b, preN_zero b _ _ ▸ hBw6, (Ext.own (Ext.own hEw1 hCw5 (by omega)) hCw6 (by omega))⟩ ?_)))))))))
        rintro i dw7 w7 ⟨hi, hck, hBl, hEl⟩
        have hzl := hEl.size
        have hll := hBl.lt
        refine wpC_seq (wpC_region (wpF_step (op_split (some 52) (decide (((i : Nat) : Int) < ((4 : Nat) : Int))) (fun hc52 => ?_) (fun hc52 => ?_))))
        · replace hc52 : i < 4 := by have := of_d_t hc52; omega
          refine wpF_end (then_code (wpC_seq (wpC_true (wpC_skip (then_code (wpC_seq (wpC_block (wpC_seq (wpC_region ?_)))))))))
          refine wpF_run 2 [(6, (vI i)), (53, (vI i))] (wpF_end (then_code (wpC_seq (wpC_drawM (Ext w7.drew) 16 [(55, 1, 0), (56, 64, 0), (57, 16, 0), (58, 72057594037927936, 4), (59, 144115188075855872, 8), (60, 324259173170675712, 18), (61, 576460752303423488, 32), (62, 64, 0), (63, 2305843009213693952, 128), (64, 16, 0), (65, 9223372036854775808, 512), (66, 18446744073709551616, 1024), (67, 41505174165846491136, 2304), (68, 73786976294838206464, 4096), (69, 148744888492792741888, 8257), (8, 295147905179352825856, 32767)] (fun hT207 => ?_)))))
          have hEw8 : Ext w7 w7.drew := Ext.drew w7
          generalize w7.drew = w8 at hEw8 ⊢
          have hzw8 := hEw8.size
          refine anyM_run hT207 [(0, 54, (.slice (pA b1 o1) n_b c_b)), (1, 55, (vI i)), (2, 56, (vI 0))] 3 7 (anyM_take hT207 3 15 (some 57) (vP 0 0) (yld_val (Instr.indexAt 76 (vP 0 0) (vI 0)) (fun w' hC => rn_ixa (E := 3) (sz := 1) (m := 2) (by omega))) (anyM_take hT207 4 31 (some 58) (vI 45) (yld_val (Instr.loadAt 3 (vP 0 0)) (fun w' hC => rn_ld (((((hg0.ext hEl)).ext hEw8).ext hC).all.one 0 (vI 45) rfl))) (anyM_take hT207 5 63 (some 59) (vI (i * 45)) (yld_in .i64 (IntKind.i64.wrap (((i : Nat) : Int) * ((45 : Nat) : Int))) (wrapS (by omega) (by omega) (by omega))) (anyM_take hT207 6 127 (some 60) (vI (5 + (i * 45))) (yld_in .i64 (IntKind.i64.wrap (((5 : Nat) : Int) + ((i * 45 : Nat) : Int))) (wrapS (by omega) (by omega) (by omega))) (anyM_run hT207 [(7, 61, (vI i))] 1 255 (anyM_take hT207 8 511 (some 62) (vI (i + 1)) (yld_in .i64 (IntKind.i64.wrap (((i : Nat) : Int) + ((1 : Nat) : Int))) (wrapS (by omega) (by omega) (by omega))) (anyM_run hT207 [(9, 63, (vI 0))] 1 1023 (anyM_take hT207 10 2047 (some 64) (vP 0 0) (yld_val (Instr.indexAt 76 (vP 0 0) (vI 0)) (fun w' hC => rn_ixa (E := 3) (sz := 1) (m := 2) (by omega))) (anyM_take hT207 11 4095 (some 65) (vI 45) (yld_val (Instr.loadAt 3 (vP 0 0)) (fun w' hC => rn_ld (((((hg0.ext hEl)).ext hEw8).ext hC).all.one 0 (vI 45) rfl))) ?_)))))))))
          refine anyM_take hT207 12 8191 (some 66) (vI ((i + 1) * 45)) (yld_in .i64 (IntKind.i64.wrap (((i + 1 : Nat) : Int) * ((45 : Nat) : Int))) (wrapS (by omega) (by omega) (by omega))) (anyM_take hT207 13 16383 (some 67) (vI (5 + ((i + 1) * 45))) (yld_in .i64 (IntKind.i64.wrap (((5 : Nat) : Int) + (((i + 1) * 45 : Nat) : Int))) (wrapS (by omega) (by omega) (by omega))) ?_)
          obtain ⟨a2, hR2, hS2⟩ := (((h_b.ext hEl)).ext hEw8).slice Tryd.prog 44 5 (5 + (i * 45)) (5 + ((i + 1) * 45)) c_b (some (vI (5 + (i * 45)))) (some (vI (5 + ((i + 1) * 45)))) none
          refine anyM_take hT207 14 32767 (some 68) (.slice a2 (5 + ((i + 1) * 45) - (5 + (i * 45))) (c_b - (5 + (i * 45)))) (yld_val (Instr.sliceAt 44 (.slice (pA b1 o1) n_b c_b) (some (vI (5 + (i * 45)))) (some (vI (5 + ((i + 1) * 45)))) none) (fun w' hC => hR2 _)) (anyM_run hT207 [(15, 7, (.slice a2 (5 + ((i + 1) * 45) - (5 + (i * 45))) (c_b - (5 + (i * 45)))))] 1 65535 (anyM_done (then_code (wpC_seq (wpC_seq (wpC_region (wpF_run 1 [(69, (vI 0))] (wpF_step (op_b (some 70) (((0 : Nat) : Int) == ((0 : Nat) : Int)) true (cmpEqT (by omega)) ?_)))))))))
          refine wpF_end (then_code (wpC_true (wpC_region (wpF_run 2 [(73, (.slice a2 (5 + ((i + 1) * 45) - (5 + (i * 45))) (c_b - (5 + (i * 45))))), (72, (vI i))] ?_))))
          rcases chkR_le (Rec.of (prtB b 45 i)) with hok | hbad
          · refine wpF_step (op_call (some 74) (c_GetRecord _ hS2 (by first | omega | decide) (by rw [show (b.drop (5 + (i * 45))).take (5 + ((i + 1) * 45) - (5 + (i * 45))) = prtB b 45 i from by rw [prtB]; congr 1; omega]; assumption)) ?_)
            rintro _ w9 ⟨rfl, hEw9⟩
            have hzw9 := hEw9.size
            rw [show (b.drop (5 + (i * 45))).take (5 + ((i + 1) * 45) - (5 + (i * 45))) = prtB b 45 i from by rw [prtB]; congr 1; omega]
            refine wpF_run 4 [(77, (vP w.heap.size 2)), (76, (vI 0)), (75, (vA (recC (Rec.of (prtB b 45 i))))), (71, (.tuple #[(vA (recC (Rec.of (prtB b 45 i)))), (vI 0)]))] (wpF_step (op_v (some 78) (Instr.indexAt 36 (vP w.heap.size 2) (vI i)) (vP w.heap.size (2 + i * 35)) (rn_ixa (E := 35) (sz := 35) (m := 4) (by omega)) ?_))
            refine wpF_step (op_store 35 w.heap.size (2 + i * 35) 41 (vA (recC (Rec.of (prtB b 45 i)))) (nodC (preN b i)) (recC (Rec.of (prtB b 45 i))) (((hBl.ext hEw8)).ext hEw9) (by rw [recC_len]; kernel_rfl) (by first | (simp; done) | (simp; omega)) (recC_one _) ?_)
            intro w10 hBw10 hCw10
            have hzw10 := hCw10.size
            rw [show (setFrom (nodC (preN b i)) (2 + i * 35) (recC (Rec.of (prtB b 45 i))) : List Value) = nodC ((preN b i).setR i (Rec.of (prtB b 45 i))) from nod_setR (by omega)] at hBw10
            refine wpF_run 1 [(3, (vI 0))] (wpF_end (then_code (wpC_seq (wpC_region (wpF_run 2 [(88, vF), (87, (vI 0))] (wpF_end (then_code (wpC_false (wpC_skip ?_)))))))))
            refine inBlock_normal (then_code (wpC_region (wpF_step (op_in (some 91) .i64 (IntKind.i64.wrap (((i : Nat) : Int) + ((1 : Nat) : Int))) (i + 1) (wrapS (by omega) (by omega) (by omega)) ?_))))
            refine wpF_run 1 [(51, (vI (i + 1)))] (wpF_end (then_normal ?_))
            have hX1 : Ext w w10 := (Ext.own ((hEl.trans hEw8).trans hEw9) hCw10 (by omega))
            refine endR_mk (i + 1) ?_ ?_
            · exact ⟨by omega, ckL_R hck hp0 hok, (preN_setR (l := b) (p := i) (by omega) hp0) ▸ hBw10, hX1⟩
            · first | omega | (dsimp only; omega)
          · refine wpF_step (op_call (some 74) (c_GetRecordBad _ hS2 (by first | omega | decide) (by rw [show (b.drop (5 + (i * 45))).take (5 + ((i + 1) * 45) - (5 + (i * 45))) = prtB b 45 i from by rw [prtB]; congr 1; omega]; assumption)) ?_)
            rintro _ w11 ⟨rfl, hEw11⟩
            have hzw11 := hEw11.size
            refine wpF_run 4 [(77, (vP w.heap.size 2)), (76, (vI 1)), (75, (vA (recC Rec.zero))), (71, (.tuple #[(vA (recC Rec.zero)), (vI 1)]))] (wpF_step (op_v (some 78) (Instr.indexAt 36 (vP w.heap.size 2) (vI i)) (vP w.heap.size (2 + i * 35)) (rn_ixa (E := 35) (sz := 35) (m := 4) (by omega)) ?_))
            refine wpF_step (op_store 35 w.heap.size (2 + i * 35) 41 (vA (recC Rec.zero)) (nodC (preN b i)) (recC Rec.zero) (((hBl.ext hEw8)).ext hEw11) (by rw [recC_len]; kernel_rfl) (by first | (simp; done) | (simp; omega)) (recC_one _) ?_)
            intro w12 hBw12 hCw12
            have hzw12 := hCw12.size
            rw [show (setFrom (nodC (preN b i)) (2 + i * 35) (recC Rec.zero) : List Value) = nodC ((preN b i).setR i Rec.zero) from nod_setR (by omega)] at hBw12
            refine wpF_run 1 [(3, (vI 1))] (wpF_end (then_code (wpC_seq (wpC_region (wpF_run 2 [(88, vT), (87, (vI 1))] (wpF_end (then_code (wpC_true (wpC_seq ?_)))))))))
            refine wpC_region (wpF_run 2 [(90, (vI 1)), (89, (vA (nodC Nod.zero)))] (wpF_step (op_store 41 w.heap.size 0 41 (vA (nodC Nod.zero)) (nodC ((preN b i).setR i Rec.zero)) (nodC Nod.zero) hBw12 (by rw [nodC_len]; kernel_rfl) (by first | (simp; done) | (simp; omega)) (nodC_one _) ?_)))
            intro w13 hBw13 hCw13
            have hzw13 := hCw13.size
            rw [setFrom_all _ _ (by simp)] at hBw13
            refine wpF_run 1 [(3, (vI 1))] (wpF_end (then_code (wpC_ret (inBlock_ret (then_ret (then_ret (inBlock_ret (then_ret (body_ret2 (show resVal Tryd.prog 93 _ _ (.cell 2 41) (vA (nodC Nod.zero)) from ⟨⟨w.heap.size, 0, none⟩, (by kernel_rfl), run_loadVar_agg (T := 41) (vs := nodC Nod.zero) (hBw13).all (by rw [nodC_len]; kernel_rfl)⟩) (show resVal Tryd.prog 93 _ _ (.tmp 3) (vI 1) by (show _ = _; kernel_rfl)) ?_)))))))))
            have hX2 : Ext w w13 := (Ext.own (Ext.own ((hEl.trans hEw8).trans hEw11) hCw12 (by omega)) hCw13 (by omega))
            have hne : getNE b = 1 := (getNE_eq (by omega) (by rw [hsz]; have := h_b.len_eq; omega)).trans (ckL_badR (by omega) hp0 hbad)
            rw [getN_of hne, hne]
            exact ⟨rfl, hX2⟩
        · replace hc52 : ¬ (i < 4) := by have := of_d_f hc52; omega
          refine wpF_end (then_code (wpC_seq (wpC_false (wpC_exit (then_exit (then_exit (inBlock_exit (then_code (wpC_seq ?_)))))))))
          refine wpC_region (wpF_step (op_v (some 92) (Instr.loadAt 41 (vP w.heap.size 0)) (vA (nodC (preN b i))) (rn_lda (vs := nodC (preN b i)) (hBl.all) (by rw [nodC_len]; kernel_rfl)) ?_))
          refine wpF_step (op_store 41 w.heap.size 0 41 (vA (nodC (preN b i))) (nodC (preN b i)) (nodC (preN b i)) hBl (by rw [nodC_len]; kernel_rfl) (by first | (simp; done) | (simp; omega)) (nodC_one _) ?_)
          intro w14 hBw14 hCw14
          have hzw14 := hCw14.size
          rw [setFrom_all _ _ (by simp)] at hBw14
          refine wpF_run 1 [(3, (vI 0))] (wpF_end (then_code (wpC_ret (body_ret2 (show resVal Tryd.prog 93 _ _ (.cell 2 41) (vA (nodC (preN b i))) from ⟨⟨w.heap.size, 0, none⟩, (by kernel_rfl), run_loadVar_agg (T := 41) (vs := nodC (preN b i)) (hBw14).all (by rw [nodC_len]; kernel_rfl)⟩) (show resVal Tryd.prog 93 _ _ (.tmp 3) (vI 0) by (show _ = _; kernel_rfl)) ?_))))
          obtain rfl : i = 4 := by omega
          have hne : getNE b = 0 := (getNE_eq (by omega) (by rw [hsz]; have := h_b.len_eq; omega)).trans hck
          rw [getN_of hne, hne]
          exact ⟨rfl, (Ext.own hEl hCw14 (by omega))⟩

theorem c_NGet1 {lo_b hi_b : Nat} {a_b : Option Addr} {n_b c_b : Nat} {b : List UInt8}  (w : World) (h_b : Bs lo_b hi_b w a_b n_b c_b b) (hp0 : ¬ byt b 0 = 0) (hg0 : Gl 0 [vI 45, vI 33] w) :
    Calls Tryd.prog 14 #[(.slice a_b n_b c_b)] w (Ret fun r w' => r = (.tuple #[(vA (nodC (getN b))), (vI (getNE b))]) ∧ Ext w w') := by
  refine calls_of (n := 93) (σ := [(0, (.slice a_b n_b c_b))]) Tryd.func14 rfl ?_
  replace h_b := h_b.now; have hle_b := h_b.le
  have hgl0 := hg0.lt
  have hlen := h_b.len_eq
  have hsz : sizL b = 137 := by unfold sizL; rw [if_neg hp0]
  refine wpC_seq (wpC_region (wpF_step (op_new (some 2) (Instr.alloc 41 true (.tuple #[])) (vP w.heap.size 0) (nodC Nod.zero) 41 ?_)))
  intro w1 hBw1 hEw1
  have hzw1 := hEw1.size; have hlw1 := hBw1.lt
  refine wpF_run 1 [(3, (vI 0))] (wpF_end (then_code (wpC_seq (wpC_block (wpC_seq (wpC_region (wpF_run 2 [(10, (vI n_b)), (9, (.slice a_b n_b c_b))] (wpF_step (op_split (some 11) ((((n_b : Nat) : Int) == ((0 : Nat) : Int))) (fun hc11 => ?_) (fun hc11 => ?_))))))))))
  · replace hc11 : n_b = 0 := by have := of_eq_t hc11; omega
    skip
    refine wpF_run 1 [(8, vT)] (wpF_end (then_code (wpC_true (wpC_seq (wpC_region (wpF_step (op_v (some 12) (Instr.loadAt 41 (vP w.heap.size 0)) (vA (nodC Nod.zero)) (rn_lda (vs := nodC Nod.zero) (hBw1.all) (by rw [nodC_len]; kernel_rfl)) ?_)))))))
    refine wpF_step (op_store 41 w.heap.size 0 41 (vA (nodC Nod.zero)) (nodC Nod.zero) (nodC Nod.zero) hBw1 (by rw [nodC_len]; kernel_rfl) (by first | (simp; done) | (simp; omega)) (nodC_one _) ?_)
    intro w2 hBw2 hCw2
    have hzw2 := hCw2.size
    rw [setFrom_all _ _ (by simp)] at hBw2
    refine wpF_run 1 [(3, (vI 6))] (wpF_end (then_code (wpC_ret (inBlock_ret (then_ret (body_ret2 (show resVal Tryd.prog 93 _ _ (.cell 2 41) (vA (nodC Nod.zero)) from ⟨⟨w.heap.size, 0, none⟩, (by kernel_rfl), run_loadVar_agg (T := 41) (vs := nodC Nod.zero) (hBw2).all (by rw [nodC_len]; kernel_rfl)⟩) (show resVal Tryd.prog 93 _ _ (.tmp 3) (vI 6) by (show _ = _; kernel_rfl)) ?_))))))
    have hne : getNE b = 6 := getNE_nil (by have := h_b.len_eq; omega)
    rw [getN_of hne, hne]
    exact ⟨rfl, (Ext.own hEw1 hCw2 (by omega))⟩
  · replace hc11 : ¬ (n_b = 0) := by have := of_eq_f hc11; omega
    refine wpF_run 1 [(8, vF)] (wpF_end (then_code (wpC_false (wpC_seq (wpC_region (wpF_run 1 [(14, (.slice a_b n_b c_b))] ?_))))))
    obtain ⟨b1, o1, rfl⟩ := h_b.addr (by omega)
    refine wpF_step (op_v (some 15) (Instr.indexAt 44 (.slice (pA b1 o1) n_b c_b) (vI 0)) (vP b1 (o1 + 0 * 1)) (rn_ixs (E := 5) (sz := 1) (by omega)) ?_)
    refine wpF_step (op_v (some 16) (Instr.loadAt 5 (vP b1 (o1 + 0 * 1))) (vB (byt b 0)) (rn_ld ((h_b.ext hEw1).cell1 (by omega))) ?_)
    refine wpF_step (op_split (some 17) (decide (((byt b 0 : Nat) : Int) > ((5 : Nat) : Int))) (fun hc17 => ?_) (fun hc17 => ?_))
    · replace hc17 : byt b 0 > 5 := by have := of_d_t hc17; omega
      refine wpF_run 1 [(13, vT)] (wpF_end (then_code (wpC_true (wpC_seq (wpC_region (wpF_step (op_v (some 18) (Instr.loadAt 41 (vP w.heap.size 0)) (vA (nodC Nod.zero)) (rn_lda (vs := nodC Nod.zero) (hBw1.all) (by rw [nodC_len]; kernel_rfl)) ?_)))))))
      refine wpF_step (op_store 41 w.heap.size 0 41 (vA (nodC Nod.zero)) (nodC Nod.zero) (nodC Nod.zero) hBw1 (by rw [nodC_len]; kernel_rfl) (by first | (simp; done) | (simp; omega)) (nodC_one _) ?_)
      intro w3 hBw3 hCw3
      have hzw3 := hCw3.size
      rw [setFrom_all _ _ (by simp)] at hBw3
      refine wpF_run 1 [(3, (vI 1))] (wpF_end (then_code (wpC_ret (inBlock_ret (then_ret (body_ret2 (show resVal Tryd.prog 93 _ _ (.cell 2 41) (vA (nodC Nod.zero)) from ⟨⟨w.heap.size, 0, none⟩, (by kernel_rfl), run_loadVar_agg (T := 41) (vs := nodC Nod.zero) (hBw3).all (by rw [nodC_len]; kernel_rfl)⟩) (show resVal Tryd.prog 93 _ _ (.tmp 3) (vI 1) by (show _ = _; kernel_rfl)) ?_))))))
      have hne : getNE b = 1 := getNE_lv (by have := h_b.len_eq; omega) (by omega)
      rw [getN_of hne, hne]
      exact ⟨rfl, (Ext.own hEw1 hCw3 (by omega))⟩
    · replace hc17 : ¬ (byt b 0 > 5) := by have := of_d_f hc17; omega
      refine wpF_run 1 [(13, vF)] (wpF_end (then_code (wpC_false (wpC_skip (inBlock_normal (then_code (wpC_seq (wpC_region (wpF_run 1 [(19, (.slice (pA b1 o1) n_b c_b))] ?_)))))))))
      refine wpF_step (op_v (some 20) (Instr.indexAt 44 (.slice (pA b1 o1) n_b c_b) (vI 0)) (vP b1 (o1 + 0 * 1)) (rn_ixs (E := 5) (sz := 1) (by omega)) ?_)
      refine wpF_step (op_v (some 21) (Instr.loadAt 5 (vP b1 (o1 + 0 * 1))) (vB (byt b 0)) (rn_ld ((h_b.ext hEw1).cell1 (by omega))) ?_)
      refine wpF_step (op_call (some 22) (c_kind (byt b 0) _) ?_)
      rintro _ _ ⟨rfl, rfl⟩
      rw [show min (byt b 0) 1 = 1 from by omega]
      refine wpF_run 1 [(4, (vI 1))] (wpF_end (then_code (wpC_seq (wpC_seq (wpC_region (wpF_run 1 [(23, (vI 1))] (wpF_step (op_v (some 24) (Instr.indexAt 76 (vP 0 0) (vI 1)) (vP 0 1) (rn_ixa (E := 3) (sz := 1) (m := 2) (by omega)) ?_))))))))
      refine wpF_step (op_v (some 25) (Instr.loadAt 3 (vP 0 1)) (vI 33) (rn_ld ((hg0.ext hEw1).all.one 1 (vI 33) rfl)) ?_)
      refine wpF_step (op_in (some 26) .i64 (IntKind.i64.wrap (((4 : Nat) : Int) * ((33 : Nat) : Int))) 132 (wrapS (by omega) (by omega) (by omega)) ?_)
      refine wpF_step (op_in (some 27) .i64 (IntKind.i64.wrap (((5 : Nat) : Int) + ((132 : Nat) : Int))) 137 (wrapS (by omega) (by omega) (by omega)) ?_)
      refine wpF_run 1 [(5, (vI 137))] (wpF_end (then_code (wpC_block (wpC_seq (wpC_region (wpF_run 3 [(31, (vI 137)), (30, (vI n_b)), (29, (.slice (pA b1 o1) n_b c_b))] (wpF_step (op_split (some 32) (decide (((n_b : Nat) : Int) < ((137 : Nat) : Int))) (fun hc32 => ?_) (fun hc32 => ?_)))))))))
      · replace hc32 : n_b < 137 := by have := of_d_t hc32; omega
        refine wpF_run 1 [(28, vT)] (wpF_end (then_code (wpC_true (wpC_seq (wpC_region (wpF_step (op_v (some 33) (Instr.loadAt 41 (vP w.heap.size 0)) (vA (nodC Nod.zero)) (rn_lda (vs := nodC Nod.zero) (hBw1.all) (by rw [nodC_len]; kernel_rfl)) ?_)))))))
        refine wpF_step (op_store 41 w.heap.size 0 41 (vA (nodC Nod.zero)) (nodC Nod.zero) (nodC Nod.zero) hBw1 (by rw [nodC_len]; kernel_rfl) (by first | (simp; done) | (simp; omega)) (nodC_one _) ?_)
        intro w4 hBw4 hCw4
        have hzw4 := hCw4.size
        rw [setFrom_all _ _ (by simp)] at hBw4
        refine wpF_run 1 [(3, (vI 6))] (wpF_end (then_code (wpC_ret (inBlock_ret (then_ret (body_ret2 (show resVal Tryd.prog 93 _ _ (.cell 2 41) (vA (nodC Nod.zero)) from ⟨⟨w.heap.size, 0, none⟩, (by kernel_rfl), run_loadVar_agg (T := 41) (vs := nodC Nod.zero) (hBw4).all (by rw [nodC_len]; kernel_rfl)⟩) (show resVal Tryd.prog 93 _ _ (.tmp 3) (vI 6) by (show _ = _; kernel_rfl)) ?_))))))
        have hne : getNE b = 6 := getNE_short (by omega) (by rw [hsz]; have := h_b.len_eq; omega)
        rw [getN_of hne, hne]
        exact ⟨rfl, (Ext.own hEw1 hCw4 (by omega))⟩
      · replace hc32 : ¬ (n_b < 137) := by have := of_d_f hc32; omega
        refine wpF_run 1 [(28, vF)] (wpF_end (then_code (wpC_false (wpC_seq (wpC_region (wpF_run 3 [(37, (vI 137)), (36, (vI n_b)), (35, (.slice (pA b1 o1) n_b c_b))] (wpF_step (op_split (some 38) (decide (((n_b : Nat) : Int) > ((137 : Nat) : Int))) (fun hc38 => ?_) (fun hc38 => ?_)))))))))
        · replace hc38 : n_b > 137 := by have := of_d_t hc38; omega
          refine wpF_run 1 [(34, vT)] (wpF_end (then_code (wpC_true (wpC_seq (wpC_region (wpF_step (op_v (some 39) (Instr.loadAt 41 (vP w.heap.size 0)) (vA (nodC Nod.zero)) (rn_lda (vs := nodC Nod.zero) (hBw1.all) (by rw [nodC_len]; kernel_rfl)) ?_)))))))
          refine wpF_step (op_store 41 w.heap.size 0 41 (vA (nodC Nod.zero)) (nodC Nod.zero) (nodC Nod.zero) hBw1 (by rw [nodC_len]; kernel_rfl) (by first | (simp; done) | (simp; omega)) (nodC_one _) ?_)
          intro w5 hBw5 hCw5
          have hzw5 := hCw5.size
          rw [setFrom_all _ _ (by simp)] at hBw5
          refine wpF_run 1 [(3, (vI 5))] (wpF_end (then_code (wpC_ret (inBlock_ret (then_ret (body_ret2 (show resVal Tryd.prog 93 _ _ (.cell 2 41) (vA (nodC Nod.zero)) from ⟨⟨w.heap.size, 0, none⟩, (by kernel_rfl), run_loadVar_agg (T := 41) (vs := nodC Nod.zero) (hBw5).all (by rw [nodC_len]; kernel_rfl)⟩) (show resVal Tryd.prog 93 _ _ (.tmp 3) (vI 5) by (show _ = _; kernel_rfl)) ?_))))))
          have hne : getNE b = 5 := getNE_long (by omega) (by rw [hsz]; have := h_b.len_eq; omega)
          rw [getN_of hne, hne]
          exact ⟨rfl, (Ext.own hEw1 hCw5 (by omega))⟩
        · replace hc38 : ¬ (n_b > 137) := by have := of_d_f hc38; omega
          refine wpF_run 1 [(34, vF)] (wpF_end (then_code (wpC_false (wpC_skip (inBlock_normal (then_code (wpC_seq (wpC_region (wpF_run 1 [(40, (.slice (pA b1 o1) n_b c_b))] ?_)))))))))
          refine wpF_step (op_v (some 41) (Instr.indexAt 44 (.slice (pA b1 o1) n_b c_b) (vI 0)) (vP b1 (o1 + 0 * 1)) (rn_ixs (E := 5) (sz := 1) (by omega)) ?_)
          refine wpF_step (op_v (some 42) (Instr.loadAt 5 (vP b1 (o1 + 0 * 1))) (vB (byt b 0)) (rn_ld ((h_b.ext hEw1).cell1 (by omega))) ?_)
          refine wpF_run 1 [(43, (vP w.heap.size 0))] (wpF_step (op_store1 5 w.heap.size 0 41 (vB (byt b 0)) (nodC Nod.zero) hBw1 (by first | decide | (simp; done) | (simp; omega)) ?_))
          intro w6 hBw6 hCw6
          have hzw6 := hCw6.size
          rw [show ((nodC Nod.zero).set 0 (vB (byt b 0)) : List Value) = nodC (Nod.zero.setLv (byt b 0) (byt_lt _ _)) from nod_setLv (byt_lt _ _)] at hBw6
          refine wpF_end (then_code (wpC_seq (wpC_region (wpF_run 1 [(45, (.slice (pA b1 o1) n_b c_b))] ?_))))
          obtain ⟨a1, hR1, hS1⟩ := (((h_b.ext hEw1)).chg hCw6 (fun k h1 h2 hs => by have h : k = _ := hs; omega)).slice Tryd.prog 44 5 1 5 c_b (some (vI 1)) (some (vI 5)) none
          refine wpF_step (op_v (some 46) (Instr.sliceAt 44 (.slice (pA b1 o1) n_b c_b) (some (vI 1)) (some (vI 5)) none) (.slice a1 (5 - 1) (c_b - 1)) (hR1 _) ?_)
          refine wpF_step (op_call (some 47) (c_Get32 _ hS1) ?_)
          rintro _ _ ⟨rfl, rfl⟩
          rw [show (b.drop 1).take (5 - 1) = (b.drop 1).take 4 from rfl]
          refine wpF_run 4 [(50, (vP w.heap.size 1)), (49, (vI (getE ((b.drop 1).take 4) 4))), (48, (vW (getV ((b.drop 1).take 4) 4))), (44, (.tuple #[(vW (getV ((b.drop 1).take 4) 4)), (vI (getE ((b.drop 1).take 4) 4))]))] (wpF_step (op_store1 28 w.heap.size 1 41 (vW (getV ((b.drop 1).take 4) 4)) (nodC (Nod.zero.setLv (byt b 0) (byt_lt _ _))) hBw6 (by first | decide | (simp; done) | (simp; omega)) ?_))
          intro w7 hBw7 hCw7
          have hzw7 := hCw7.size
          rw [show ((nodC (Nod.zero.setLv (byt b 0) (byt_lt _ _))).set 1 (vW (getV ((b.drop 1).take 4) 4)) : List Value) = nodC ((Nod.zero.setLv (byt b 0) (byt_lt _ _)).setIx (getV ((b.drop 1).take 4) 4) (getV_lt _ 4)) from nod_setIx (getV_lt _ 4)] at hBw7
          refine wpF_end (then_code (wpC_seq (wpC_seq (wpC_region (wpF_run 1 [(51, (vI 0))] (wpF_end (then_code (wpC_block (wpC_loop (X := Nat) (fun i => [(51, (vI i))]) [3, 6, 7, 52, 53, 54, 55, 56, 57, 58, 59, 60, 61, 62, 63, 64, 65, 66, 67, 68, 69, 70, 71, 72, 73, 74, 75, 76, 77, 78, 79, 80, 81, 82, 83, 84, 85, 86, 87, 88, 89, 90, 91] (fun i w8 => i ≤ 4 ∧ ckL b i = 0 ∧ Blk w8 w.heap.size (nodC (preN b i)) 41 ∧ Ext w w8) (fun i => 4 - i) 0 (by kernel_rfl) ⟨by omega, ckL_zero b, preN_zero b _ _ ▸ hBw7, (Ext.own (Ext.own hEw1 hCw6 (by omega)) hCw7 (by omega))⟩ ?_)))))))))
          rintro i dw8 w8 ⟨hi, hck, hBl, hEl⟩
          have hzl := hEl.size
          have hll := hBl.lt
          refine wpC_seq (wpC_region (wpF_step (op_split (some 52) (decide (((i : Nat) : Int) < ((4 : Nat) : Int))) (fun hc52 => ?_) (fun hc52 => ?_))))
          · replace hc52 : i < 4 := by have := of_d_t hc52; omega
            refine wpF_end (then_code (wpC_seq (wpC_true (wpC_skip (then_code (wpC_seq (wpC_block (wpC_seq (wpC_region ?_)))))))))
            refine wpF_run 2 [(6, (vI i)), (53, (vI i))] (wpF_end (then_code (wpC_seq (wpC_drawM (Ext w8.drew) 16 [(55, 1, 0), (56, 64, 0), (57, 16, 0), (58, 72057594037927936, 4), (59, 144115188075855872, 8), (60, 324259173170675712, 18), (61, 576460752303423488, 32), (62, 64, 0), (63, 2305843009213693952, 128), (64, 16, 0), (65, 9223372036854775808, 512), (66, 18446744073709551616, 1024), (67, 41505174165846491136, 2304), (68, 73786976294838206464, 4096), (69, 148744888492792741888, 8257), (8, 295147905179352825856, 32767)] (fun hT373 => ?_)))))
            have hEw9 : Ext w8 w8.drew := Ext.drew w8
            generalize w8.drew = w9 at hEw9 ⊢
            have hzw9 := hEw9.size
            refine anyM_run hT373 [(0, 54, (.slice (pA b1 o1) n_b c_b)), (1, 55, (vI i)), (2, 56, (vI 1))] 3 7 (anyM_take hT373 3 15 (some 57) (vP 0 1) (yld_val (Instr.indexAt 76 (vP 0 0) (vI 1)) (fun w' hC => rn_ixa (E := 3) (sz := 1) (m := 2) (by omega))) (anyM_take hT373 4 31 (some 58) (vI 33) (yld_val (Instr.loadAt 3 (vP 0 1)) (fun w' hC => rn_ld (((((hg0.ext hEl)).ext hEw9).ext hC).all.one 1 (vI 33) rfl))) (anyM_take hT373 5 63 (some 59) (vI (i * 33)) (yld_in .i64 (IntKind.i64.wrap (((i : Nat) : Int) * ((33 : Nat) : Int))) (wrapS (by omega) (by omega) (by omega))) (anyM_take hT373 6 127 (some 60) (vI (5 + (i * 33))) (yld_in .i64 (IntKind.i64.wrap (((5 : Nat) : Int) + ((i * 33 : Nat) : Int))) (wrapS (by omega) (by omega) (by omega))) (anyM_run hT373 [(7, 61, (vI i))] 1 255 (anyM_take hT373 8 511 (some 62) (vI (i + 1)) (yld_in .i64 (IntKind.i64.wrap (((i : Nat) : Int) + ((1 : Nat) : Int))) (wrapS (by omega) (by omega) (by omega))) (anyM_run hT373 [(9, 63, (vI 1))] 1 1023 (anyM_take hT373 10 2047 (some 64) (vP 0 1) (yld_val (Instr.indexAt 76 (vP 0 0) (vI 1)) (fun w' hC => rn_ixa (E := 3) (sz := 1) (m := 2) (by omega))) (anyM_take hT373 11 4095 (some 65) (vI 33) (yld_val (Instr.loadAt 3 (vP 0 1)) (fun w' hC => rn_ld (((((hg0.ext hEl)).ext hEw9).ext hC).all.one 1 (vI 33) rfl))) ?_)))))))))
            refine anyM_take hT373 12 8191 (some 66) (vI ((i + 1) * 33)) (yld_in .i64 (IntKind.i64.wrap (((i + 1 : Nat) : Int) * ((33 : Nat) : Int))) (wrapS (by omega) (by omega) (by omega))) (anyM_take hT373 13 16383 (some 67) (vI (5 + ((i + 1) * 33))) (yld_in .i64 (IntKind.i64.wrap (((5 : Nat) : Int) + (((i + 1) * 33 : Nat) : Int))) (wrapS (by omega) (by omega) (by omega))) ?_)
            obtain ⟨a2, hR2, hS2⟩ := (((h_b.ext hEl)).ext hEw9).slice Tryd.prog 44 5 (5 + (i * 33)) (5 + ((i + 1) * 33)) c_b (some (vI (5 + (i * 33)))) (some (vI (5 + ((i + 1) * 33)))) none
            refine anyM_take hT373 14 32767 (some 68) (.slice a2 (5 + ((i + 1) * 33) - (5 + (i * 33))) (c_b - (5 + (i * 33)))) (yld_val (Instr.sliceAt 44 (.slice (pA b1 o1) n_b c_b) (some (vI (5 + (i * 33)))) (some (vI (5 + ((i + 1) * 33)))) none) (fun w' hC => hR2 _)) (anyM_run hT373 [(15, 7, (.slice a2 (5 + ((i + 1) * 33) - (5 + (i * 33))) (c_b - (5 + (i * 33)))))] 1 65535 (anyM_done (then_code (wpC_seq (wpC_seq (wpC_region (wpF_run 1 [(69, (vI 1))] (wpF_step (op_b (some 70) (((1 : Nat) : Int) == ((0 : Nat) : Int)) false (cmpEqF (by omega)) ?_)))))))))
            refine wpF_end (then_code (wpC_false (wpC_region (wpF_run 2 [(81, (.slice a2 (5 + ((i + 1) * 33) - (5 + (i * 33))) (c_b - (5 + (i * 33))))), (80, (vI i))] ?_))))
            rcases chkE_le (Ent.of (prtB b 33 i)) with hok | hbad
            · refine wpF_step (op_call (some 82) (c_GetEntry _ hS2 (by first | omega | decide) (by rw [show (b.drop (5 + (i * 33))).take (5 + ((i + 1) * 33) - (5 + (i * 33))) = prtB b 33 i from by rw [prtB]; congr 1; omega]; assumption)) ?_)
              rintro _ w10 ⟨rfl, hEw10⟩
              have hzw10 := hEw10.size
              rw [show (b.drop (5 + (i * 33))).take (5 + ((i + 1) * 33) - (5 + (i * 33))) = prtB b 33 i from by rw [prtB]; congr 1; omega]
              refine wpF_run 4 [(85, (vP w.heap.size 142)), (84, (vI 0)), (83, (vA (entC (Ent.of (prtB b 33 i))))), (79, (.tuple #[(vA (entC (Ent.of (prtB b 33 i)))), (vI 0)]))] (wpF_step (op_v (some 86) (Instr.indexAt 39 (vP w.heap.size 142) (vI i)) (vP w.heap.size (142 + i * 33)) (rn_ixa (E := 38) (sz := 33) (m := 4) (by omega)) ?_))
              refine wpF_step (op_store 38 w.heap.size (142 + i * 33) 41 (vA (entC (Ent.of (prtB b 33 i)))) (nodC (preN b i)) (entC (Ent.of (prtB b 33 i))) (((hBl.ext hEw9)).ext hEw10) (by rw [entC_len]; kernel_rfl) (by first | (simp; done) | (simp; omega)) (entC_one _) ?_)
              intro w11 hBw11 hCw11
              have hzw11 := hCw11.size
              rw [show (setFrom (nodC (preN b i)) (142 + i * 33) (entC (Ent.of (prtB b 33 i))) : List Value) = nodC ((preN b i).setE i (Ent.of (prtB b 33 i))) from nod_setE (by omega)] at hBw11
              refine wpF_run 1 [(3, (vI 0))] (wpF_end (then_code (wpC_seq (wpC_region (wpF_run 2 [(88, vF), (87, (vI 0))] (wpF_end (then_code (wpC_false (wpC_skip ?_)))))))))
              refine inBlock_normal (then_code (wpC_region (wpF_step (op_in (some 91) .i64 (IntKind.i64.wrap (((i : Nat) : Int) + ((1 : Nat) : Int))) (i + 1) (wrapS (by omega) (by omega) (by omega)) ?_))))
              refine wpF_run 1 [(51, (vI (i + 1)))] (wpF_end (then_normal ?_))
              have hX1 : Ext w w11 := (Ext.own ((hEl.trans hEw9).trans hEw10) hCw11 (by omega))
              refine endR_mk (i + 1) ?_ ?_
              · exact ⟨by omega, ckL_E hck hp0 hok, (preN_setE (l := b) (p := i) (by omega) hp0) ▸ hBw11, hX1⟩
              · first | omega | (dsimp only; omega)
            · refine wpF_step (op_call (some 82) (c_GetEntryBad _ hS2 (by first | omega | decide) (by rw [show (b.drop (5 + (i * 33))).take (5 + ((i + 1) * 33) - (5 + (i * 33))) = prtB b 33 i from by rw [prtB]; congr 1; omega]; assumption)) ?_)
              rintro _ w12 ⟨rfl, hEw12⟩
              have hzw12 := hEw12.size
              refine wpF_run 4 [(85, (vP w.heap.size 142)), (84, (vI 1)), (83, (vA (entC Ent.zero))), (79, (.tuple #[(vA (entC Ent.zero)), (vI 1)]))] (wpF_step (op_v (some 86) (Instr.indexAt 39 (vP w.heap.size 142) (vI i)) (vP w.heap.size (142 + i * 33)) (rn_ixa (E := 38) (sz := 33) (m := 4) (by omega)) ?_))
              refine wpF_step (op_store 38 w.heap.size (142 + i * 33) 41 (vA (entC Ent.zero)) (nodC (preN b i)) (entC Ent.zero) (((hBl.ext hEw9)).ext hEw12) (by rw [entC_len]; kernel_rfl) (by first | (simp; done) | (simp; omega)) (entC_one _) ?_)
              intro w13 hBw13 hCw13
              have hzw13 := hCw13.size
              rw [show (setFrom (nodC (preN b i)) (142 + i * 33) (entC Ent.zero) : List Value) = nodC ((preN b i).setE i Ent.zero) from nod_setE (by omega)] at hBw13
              refine wpF_run 1 [(3, (vI 1))] (wpF_end (then_code (wpC_seq (wpC_region (wpF_run 2 [(88, vT), (87, (vI 1))] (wpF_end (then_code (wpC_true (wpC_seq ?_)))))))))
              refine wpC_region (wpF_run 2 [(90, (vI 1)), (89, (vA (nodC Nod.zero)))] (wpF_step (op_store 41 w.heap.size 0 41 (vA (nodC Nod.zero)) (nodC ((preN b i).setE i Ent.zero)) (nodC Nod.zero) hBw13 (by rw [nodC_len]; kernel_rfl) (by first | (simp; done) | (simp; omega)) (nodC_one _) ?_)))
              intro w14 hBw14 hCw14
              have hzw14 := hCw14.size
              rw [setFrom_all _ _ (by simp)] at hBw14
              refine wpF_run 1 [(3, (vI 1))] (wpF_end (then_code (wpC_ret (inBlock_ret (then_ret (then_ret (inBlock_ret (then_ret (body_ret2 (show resVal Tryd.prog 93 _ _ (.cell 2 41) (vA (nodC Nod.zero)) from ⟨⟨w.heap.size, 0, none⟩, (by kernel_rfl), run_loadVar_agg (T := 41) (vs := nodC Nod.zero) (hBw14).all (by rw [nodC_len]; kernel_rfl)⟩) (show resVal Tryd.prog 93 _ _ (.tmp 3) (vI 1) by (show _ = _; kernel_rfl)) ?_)))))))))
              have hX2 : Ext w w14 := (Ext.own (Ext.own ((hEl.trans hEw9).trans hEw12) hCw13 (by omega)) hCw14 (by omega))
              have hne : getNE b = 1 := (getNE_eq (by omega) (by rw [hsz]; have := h_b.len_eq; omega)).trans (ckL_badE (by omega) hp0 hbad)
              rw [getN_of hne, hne]
              exact ⟨rfl, hX2⟩
          · replace hc52 : ¬ (i < 4) := by have := of_d_f hc52; omega
            refine wpF_end (then_code (wpC_seq (wpC_false (wpC_exit (then_exit (then_exit (inBlock_exit (then_code (wpC_seq ?_)))))))))
            refine wpC_region (wpF_step (op_v (some 92) (Instr.loadAt 41 (vP w.heap.size 0)) (vA (nodC (preN b i))) (rn_lda (vs := nodC (preN b i)) (hBl.all) (by rw [nodC_len]; kernel_rfl)) ?_))
            refine wpF_step (op_store 41 w.heap.size 0 41 (vA (nodC (preN b i))) (nodC (preN b i)) (nodC (preN b i)) hBl (by rw [nodC_len]; kernel_rfl) (by first | (simp; done) | (simp; omega)) (nodC_one _) ?_)
            intro w15 hBw15 hCw15
            have hzw15 := hCw15.size
            rw [setFrom_all _ _ (by simp)] at hBw15
            refine wpF_run 1 [(3, (vI 0))] (wpF_end (then_code (wpC_ret (body_ret2 (show resVal Tryd.prog 93 _ _ (.cell 2 41) (vA (nodC (preN b i))) from ⟨⟨w.heap.size, 0, none⟩, (by kernel_rfl), run_loadVar_agg (T := 41) (vs := nodC (preN b i)) (hBw15).all (by rw [nodC_len]; kernel_rfl)⟩) (show resVal Tryd.prog 93 _ _ (.tmp 3) (vI 0) by (show _ = _; kernel_rfl)) ?_))))
            obtain rfl : i = 4 := by omega
            have hne : getNE b = 0 := (getNE_eq (by omega) (by rw [hsz]; have := h_b.len_eq; omega)).trans hck
            rw [getN_of hne, hne]
            exact ⟨rfl, (Ext.own hEl hCw15 (by omega))⟩

theorem c_NGet {lo_b hi_b : Nat} {a_b : Option Addr} {n_b c_b : Nat} {b : List UInt8}  (w : World) (h_b : Bs lo_b hi_b w a_b n_b c_b b) (hg0 : Gl 0 [vI 45, vI 33] w) :
    Calls Tryd.prog 14 #[(.slice a_b n_b c_b)] w (Ret fun r w' => r = (.tuple #[(vA (nodC (getN b))), (vI (getNE b))]) ∧ Ext w w') := by
  by_cases h : byt b 0 = 0
  · exact c_NGet0 w h_b h hg0
  · exact c_NGet1 w h_b h hg0

end Go.Proofs.YtpcbhalagllhnaaDoor
