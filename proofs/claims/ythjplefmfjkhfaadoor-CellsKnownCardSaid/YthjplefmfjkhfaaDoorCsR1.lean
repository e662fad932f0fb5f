/- CsR1: what each function does, by its own code. No condition beyond those of each statement. -/
import Derived.Test.YthjplefmfjkhfaaDoorCsW3
import Derived.Test.YthjplefmfjkhfaaDoorCsRecs
namespace Go.Proofs.YthjplefmfjkhfaaDoor
open Go Go.RowKit Go.Cs
set_option maxRecDepth 100000
set_option linter.all false
set_option linter.unusedVariables false

theorem c_CheckRecord (x : Rec)  (w : World)  :
    Calls Tryd.prog 62 #[(vA (recC x))] w (Ret fun r w' => r = (vI (chkR x)) ∧ Ext w w') := by
  refine calls_of (n := 16) (σ := [(0, (vA (recC x)))]) Tryd.func62 rfl ?_
  refine wpC_seq (wpC_region (wpF_step (op_new (some 1) (Instr.box 72 (vA (recC x))) (vP w.heap.size 0) (recC x) 72 ?_)))
  intro w1 hBw1 hEw1
  have hzw1 := hEw1.size; have hlw1 := hBw1.lt
  refine wpF_run 1 [(2, (vI 0))] (wpF_end (then_code (wpC_seq (wpC_seq (wpC_region (wpF_run 1 [(3, (vP w.heap.size 0))] (wpF_step (op_v (some 4) (Instr.loadAt 5 (vP w.heap.size 0)) (vB x.st) (rn_ld (hBw1.cell rfl)) ?_))))))))
  refine wpF_step (op_split (some 5) (decide (((x.st : Nat) : Int) > ((2 : Nat) : Int))) (fun hc5 => ?_) (fun hc5 => ?_))
  · replace hc5 : x.st > 2 := by have := of_d_t hc5; omega
    refine wpF_run 10 [(15, vT), (14, undef), (13, undef), (12, undef), (11, undef), (10, undef), (9, undef), (8, undef), (7, undef), (6, vT)] (wpF_end (then_code (wpC_true (wpC_seq (wpC_region (wpF_run 1 [(2, (vI 1))] (wpF_end (then_code (wpC_ret ?_)))))))))
    exact then_ret (body_rets (vI 1) (⟨congrArg (fun z : Nat => Value.int .i64 (z : Int)) (by unfold chkR; simp_all [] <;> omega), hEw1⟩))
  · replace hc5 : ¬ (x.st > 2) := by have := of_d_f hc5; omega
    refine wpF_run 2 [(7, (vP w.heap.size 0)), (6, vF)] (wpF_step (op_v (some 8) (Instr.loadAt 5 (vP w.heap.size 0)) (vB x.st) (rn_ld (hBw1.cell rfl)) ?_))
    refine wpF_step (op_split (some 9) ((((x.st : Nat) : Int) == ((0 : Nat) : Int))) (fun hc9 => ?_) (fun hc9 => ?_))
    · replace hc9 : x.st = 0 := by have := of_eq_t hc9; omega
      refine wpF_run 1 [(10, vT)] (wpF_step (op_v (some 11) (Instr.loadAt 72 (vP w.heap.size 0)) (vA (recC x)) (rn_lda (vs := recC x) (hBw1.all) (by rw [recC_len]; kernel_rfl)) ?_))
      refine wpF_run 1 [(12, (vA (recC Rec.zero)))] ?_
      rcases Bool.eq_false_or_eq_true (x.eqb Rec.zero) with hq13 | hq13
      · refine wpF_step (op_v (some 13) (bo .neq 72 (.tmp 11) (.tmp 12) (vA (recC x)) (vA (recC Rec.zero))) vF (run_neqAgg (r := true) (T := 72) ((run_eq_rec (dd := 9997) (t := 72) (t8 := 5) (tn := 70) (td := 27) (e := 5) (t32 := 68) (t64 := 28) x Rec.zero).trans (congrArg (fun b => Result.ok b _) (show (x.eqb Rec.zero) = true from hq13)))) ?_)
        refine wpF_run 2 [(15, vF), (14, vF)] (wpF_end (then_code (wpC_false (wpC_skip (then_code (wpC_seq (wpC_region (wpF_run 1 [(2, (vI 0))] (wpF_end ?_)))))))))
        exact then_code (wpC_ret (body_rets (vI 0) (⟨congrArg (fun z : Nat => Value.int .i64 (z : Int)) (by unfold chkR; simp_all [] <;> omega), hEw1⟩)))
      · refine wpF_step (op_v (some 13) (bo .neq 72 (.tmp 11) (.tmp 12) (vA (recC x)) (vA (recC Rec.zero))) vT (run_neqAgg (r := false) (T := 72) ((run_eq_rec (dd := 9997) (t := 72) (t8 := 5) (tn := 70) (td := 27) (e := 5) (t32 := 68) (t64 := 28) x Rec.zero).trans (congrArg (fun b => Result.ok b _) (show (x.eqb Rec.zero) = false from hq13)))) ?_)
        refine wpF_run 2 [(15, vT), (14, vT)] (wpF_end (then_code (wpC_true (wpC_seq (wpC_region (wpF_run 1 [(2, (vI 1))] (wpF_end (then_code (wpC_ret ?_)))))))))
        exact then_ret (body_rets (vI 1) (⟨congrArg (fun z : Nat => Value.int .i64 (z : Int)) (by unfold chkR; simp_all [] <;> omega), hEw1⟩))
    · replace hc9 : ¬ (x.st = 0) := by have := of_eq_f hc9; omega
      refine wpF_run 6 [(15, vF), (14, vF), (13, undef), (12, undef), (11, undef), (10, vF)] (wpF_end (then_code (wpC_false (wpC_skip (then_code (wpC_seq (wpC_region (wpF_run 1 [(2, (vI 0))] (wpF_end ?_)))))))))
      exact then_code (wpC_ret (body_rets (vI 0) (⟨congrArg (fun z : Nat => Value.int .i64 (z : Int)) (by unfold chkR; simp_all [] <;> omega), hEw1⟩)))

theorem c_CheckEntry (x : Ent)  (w : World)  :
    Calls Tryd.prog 63 #[(vA (entC x))] w (Ret fun r w' => r = (vI (chkE x)) ∧ Ext w w') := by
  refine calls_of (n := 16) (σ := [(0, (vA (entC x)))]) Tryd.func63 rfl ?_
  refine wpC_seq (wpC_region (wpF_step (op_new (some 1) (Instr.box 75 (vA (entC x))) (vP w.heap.size 0) (entC x) 75 ?_)))
  intro w1 hBw1 hEw1
  have hzw1 := hEw1.size; have hlw1 := hBw1.lt
  refine wpF_run 1 [(2, (vI 0))] (wpF_end (then_code (wpC_seq (wpC_seq (wpC_region (wpF_run 1 [(3, (vP w.heap.size 0))] (wpF_step (op_v (some 4) (Instr.loadAt 5 (vP w.heap.size 0)) (vB x.st) (rn_ld (hBw1.cell rfl)) ?_))))))))
  refine wpF_step (op_split (some 5) (decide (((x.st : Nat) : Int) > ((2 : Nat) : Int))) (fun hc5 => ?_) (fun hc5 => ?_))
  · replace hc5 : x.st > 2 := by have := of_d_t hc5; omega
    refine wpF_run 10 [(15, vT), (14, undef), (13, undef), (12, undef), (11, undef), (10, undef), (9, undef), (8, undef), (7, undef), (6, vT)] (wpF_end (then_code (wpC_true (wpC_seq (wpC_region (wpF_run 1 [(2, (vI 1))] (wpF_end (then_code (wpC_ret ?_)))))))))
    exact then_ret (body_rets (vI 1) (⟨congrArg (fun z : Nat => Value.int .i64 (z : Int)) (by unfold chkE; simp_all [] <;> omega), hEw1⟩))
  · replace hc5 : ¬ (x.st > 2) := by have := of_d_f hc5; omega
    refine wpF_run 2 [(7, (vP w.heap.size 0)), (6, vF)] (wpF_step (op_v (some 8) (Instr.loadAt 5 (vP w.heap.size 0)) (vB x.st) (rn_ld (hBw1.cell rfl)) ?_))
    refine wpF_step (op_split (some 9) ((((x.st : Nat) : Int) == ((0 : Nat) : Int))) (fun hc9 => ?_) (fun hc9 => ?_))
    · replace hc9 : x.st = 0 := by have := of_eq_t hc9; omega
      refine wpF_run 1 [(10, vT)] (wpF_step (op_v (some 11) (Instr.loadAt 75 (vP w.heap.size 0)) (vA (entC x)) (rn_lda (vs := entC x) (hBw1.all) (by rw [entC_len]; kernel_rfl)) ?_))
      refine wpF_run 1 [(12, (vA (entC Ent.zero)))] ?_
      rcases Bool.eq_false_or_eq_true (x.eqb Ent.zero) with hq13 | hq13
      · refine wpF_step (op_v (some 13) (bo .neq 75 (.tmp 11) (.tmp 12) (vA (entC x)) (vA (entC Ent.zero))) vF (run_neqAgg (r := true) (T := 75) ((run_eq_ent (dd := 9997) (t := 75) (t8 := 5) (td := 27) (e := 5) x Ent.zero).trans (congrArg (fun b => Result.ok b _) (show (x.eqb Ent.zero) = true from hq13)))) ?_)
        refine wpF_run 2 [(15, vF), (14, vF)] (wpF_end (then_code (wpC_false (wpC_skip (then_code (wpC_seq (wpC_region (wpF_run 1 [(2, (vI 0))] (wpF_end ?_)))))))))
        exact then_code (wpC_ret (body_rets (vI 0) (⟨congrArg (fun z : Nat => Value.int .i64 (z : Int)) (by unfold chkE; simp_all [] <;> omega), hEw1⟩)))
      · refine wpF_step (op_v (some 13) (bo .neq 75 (.tmp 11) (.tmp 12) (vA (entC x)) (vA (entC Ent.zero))) vT (run_neqAgg (r := false) (T := 75) ((run_eq_ent (dd := 9997) (t := 75) (t8 := 5) (td := 27) (e := 5) x Ent.zero).trans (congrArg (fun b => Result.ok b _) (show (x.eqb Ent.zero) = false from hq13)))) ?_)
        refine wpF_run 2 [(15, vT), (14, vT)] (wpF_end (then_code (wpC_true (wpC_seq (wpC_region (wpF_run 1 [(2, (vI 1))] (wpF_end (then_code (wpC_ret ?_)))))))))
        exact then_ret (body_rets (vI 1) (⟨congrArg (fun z : Nat => Value.int .i64 (z : Int)) (by unfold chkE; simp_all [] <;> omega), hEw1⟩))
    · replace hc9 : ¬ (x.st = 0) := by have := of_eq_f hc9; omega
      refine wpF_run 6 [(15, vF), (14, vF), (13, undef), (12, undef), (11, undef), (10, vF)] (wpF_end (then_code (wpC_false (wpC_skip (then_code (wpC_seq (wpC_region (wpF_run 1 [(2, (vI 0))] (wpF_end ?_)))))))))
      exact then_code (wpC_ret (body_rets (vI 0) (⟨congrArg (fun z : Nat => Value.int .i64 (z : Int)) (by unfold chkE; simp_all [] <;> omega), hEw1⟩)))

theorem c_noncePut (x : Non)  (w : World)  :
    Calls Tryd.prog 66 #[(vA (nonC x))] w (Ret fun r w' => ∃ a0, r = (.slice a0 12 12) ∧ Bs w.heap.size w'.heap.size w' a0 12 12 (nonB x) ∧ Ext w w') := by
  refine calls_of (n := 11) (σ := [(0, (vA (nonC x)))]) Tryd.func66 rfl ?_
  refine wpC_seq (wpC_region (wpF_step (op_new (some 1) (Instr.box 70 (vA (nonC x))) (vP w.heap.size 0) (nonC x) 70 ?_)))
  intro w1 hBw1 hEw1
  have hzw1 := hEw1.size; have hlw1 := hBw1.lt
  refine wpF_run 1 [(2, (.slice none 0 0))] (wpF_end (then_code (wpC_seq (wpC_drawM (Ext w1.drew) 9 [(4, 2, 0), (5, 8, 1), (6, 16, 2), (7, 2, 0), (8, 64, 8), (9, 128, 20), (10, 288, 36), (11, 512, 96), (3, 1024, 255)] (fun hT68 => ?_)))))
  have hEw2 : Ext w1 w1.drew := Ext.drew w1
  generalize w1.drew = w2 at hEw2 ⊢
  have hzw2 := hEw2.size
  refine anyM_run hT68 [(0, 3, (vP w.heap.size 0))] 1 1 (anyM_take hT68 1 3 (some 4) (vW x.sh) (yld_val (Instr.loadAt 68 (vP w.heap.size 0)) (fun w' hC => rn_ld (((hBw1.ext hEw2).ext hC).cell rfl))) (anyM_run hT68 [(3, 6, (vP w.heap.size 1))] 1 11 (anyM_take hT68 4 27 (some 7) (vQ x.ct) (yld_val (Instr.loadAt 28 (vP w.heap.size 1)) (fun w' hC => rn_ld (((hBw1.ext hEw2).ext hC).cell rfl))) (anyM_one 2 31 (op_call (some 5) (c_Put32 x.sh _ (x.hsh)) ?_)))))
  rintro _ w3 ⟨a1, rfl, hFz1_0, hEw3⟩
  have hzw3 := hEw3.size
  refine ⟨.inr hEw3, ?_⟩
  refine anyM_one 5 63 (op_call (some 8) (c_Put64 x.ct _) ?_)
  rintro _ w4 ⟨a2, rfl, hFz2_0, hEw4⟩
  have hzw4 := hEw4.size
  refine ⟨.inr (hEw3.trans hEw4), ?_⟩
  refine anyM_one 6 127 (op_new (some 9) (Instr.buildSlice 110 2 #[(0, (.slice a1 4 4)), (1, (.slice a2 8 8))]) (.slice (pA w4.heap.size 0) 2 2) [(.slice a1 4 4), (.slice a2 8 8)] 91 ?_)
  intro w5 hBw5 hEw5
  have hzw5 := hEw5.size; have hlw5 := hBw5.lt
  have hSw5 : Ps 0 w5.heap.size w5 (pA w4.heap.size 0) 2 2 [(.slice a1 4 4), (.slice a2 8 8)] [be x.sh 4, be x.ct 8] := Ps.of_new hBw5 rfl (by decide) (Parts.cons (Part.at (((hFz1_0.ext hEw4)).ext hEw5)) (Parts.cons (Part.at (hFz2_0.ext hEw5)) Parts.nil))
  refine ⟨.inr ((hEw3.trans hEw4).trans hEw5), ?_⟩
  refine anyM_one 7 255 (op_call (some 10) (c_Join _ hSw5 (by simp [sumLen] <;> omega)) ?_)
  rintro _ w6 ⟨a3, rfl, hFz3_0, hFz3_1, hFz3_2, hFz3_3, hEw6⟩
  have hzw6 := hEw6.size
  have hla3 := hFz3_1.lt; have hna3 := hFz3_3
  have hSa3 : Bs a3 (a3 + 1) w6 (pA a3 0) (sumLen ([be x.sh 4, be x.ct 8])) (sumLen ([be x.sh 4, be x.ct 8])) (([be x.sh 4, be x.ct 8]).flatten) := Bs.of_blk hFz3_1 rfl hFz3_2 (Nat.le_refl _) (le_maxLen hna3) (Nat.le_refl _) (Nat.lt_succ_self _)
  rw [show sumLen ([be x.sh 4, be x.ct 8]) = 12 from by simp [sumLen]]
  have hX1 : Ext w2 w6 := (((hEw3.trans hEw4).trans hEw5).trans hEw6)
  refine ⟨.inr hX1, ?_⟩
  exact anyM_run (hw := show Ext w2 w6 from hX1) hT68 [(8, 2, (.slice (pA a3 0) 12 12))] 1 511 (anyM_done (then_code (wpC_ret (body_rets (.slice (pA a3 0) 12 12) (⟨_, rfl, by simpa [nonB, sumLen] using hSa3.mono (by omega) (by omega), ((hEw1.trans hEw2).trans hX1)⟩)))))

theorem c_rNoncePut (x : Non)  (w : World)  :
    Calls Tryd.prog 72 #[(vA (nonC x))] w (Ret fun r w' => ∃ a0 ca0, r = (.slice a0 12 ca0) ∧ Es u8v w.heap.size w'.heap.size w' a0 12 ca0 (nonB x) ∧ Ext w w') := by
  refine calls_of (n := 10) (σ := [(0, (vA (nonC x)))]) Tryd.func72 rfl ?_
  refine wpC_seq (wpC_region (wpF_step (op_new (some 1) (Instr.box 70 (vA (nonC x))) (vP w.heap.size 0) (nonC x) 70 ?_)))
  intro w1 hBw1 hEw1
  have hzw1 := hEw1.size; have hlw1 := hBw1.lt
  refine wpF_run 1 [(2, (.slice none 0 0))] (wpF_end (then_code (wpC_seq (wpC_drawM (Ext w1.drew) 8 [(4, 2, 0), (5, 8, 1), (6, 16, 2), (7, 2, 0), (8, 64, 8), (9, 128, 20), (10, 288, 36), (3, 512, 127)] (fun hT101 => ?_)))))
  have hEw2 : Ext w1 w1.drew := Ext.drew w1
  generalize w1.drew = w2 at hEw2 ⊢
  have hzw2 := hEw2.size
  refine anyM_run hT101 [(0, 3, (vP w.heap.size 0))] 1 1 (anyM_take hT101 1 3 (some 4) (vW x.sh) (yld_val (Instr.loadAt 68 (vP w.heap.size 0)) (fun w' hC => rn_ld (((hBw1.ext hEw2).ext hC).cell rfl))) (anyM_run hT101 [(3, 6, (vP w.heap.size 1))] 1 11 (anyM_take hT101 4 27 (some 7) (vQ x.ct) (yld_val (Instr.loadAt 28 (vP w.heap.size 1)) (fun w' hC => rn_ld (((hBw1.ext hEw2).ext hC).cell rfl))) (anyM_one 2 31 (op_call (some 5) (c_rPut32 x.sh _ (x.hsh)) ?_)))))
  rintro _ w3 ⟨a1, rfl, hFz1_0, hFz1_1, hFz1_2, hFz1_3, hEw3⟩
  have hzw3 := hEw3.size
  have hla1 := hFz1_1.lt; have hna1 := hFz1_3
  have hSa1 : Bs a1 (a1 + 1) w3 (pA a1 0) 4 4 (be x.sh 4) := Bs.of_blk hFz1_1 rfl hFz1_2 (Nat.le_refl _) (le_maxLen hna1) (Nat.le_refl _) (Nat.lt_succ_self _)
  refine ⟨.inr hEw3, ?_⟩
  refine anyM_one 5 63 (op_call (some 8) (c_rPut64 x.ct _ (x.hct)) ?_)
  rintro _ w4 ⟨a2, rfl, hFz2_0, hFz2_1, hFz2_2, hFz2_3, hEw4⟩
  have hzw4 := hEw4.size
  have hla2 := hFz2_1.lt; have hna2 := hFz2_3
  have hSa2 : Bs a2 (a2 + 1) w4 (pA a2 0) 8 8 (be x.ct 8) := Bs.of_blk hFz2_1 rfl hFz2_2 (Nat.le_refl _) (le_maxLen hna2) (Nat.le_refl _) (Nat.lt_succ_self _)
  refine ⟨.inr (hEw3.trans hEw4), ?_⟩
  have hO1 : Cs.Own u8v a1 (a1 + 1) w4 (pA a1 0) 4 4 5 (be x.sh 4) := Cs.Own.of_blk (hFz1_1.ext hEw4) (by simp) (by first | rfl | exact rfl) (hSa1.ext hEw4).len_eq (Nat.le_refl _) (by simp only [maxLen]; omega) (Nat.le_refl _) (Nat.lt_succ_self _)
  refine anyM_one 6 127 (op_append (some 9) 91 91 5 1 (.int .u8 0) hO1 hSa2.es (fun _ => rfl) ?_)
  intro a3 c1 w5 hOw5 hCw5
  have hzw5 := hCw5.size
  have hSw5 := hOw5.bs
  refine ⟨.inr (Ext.ownS (hEw3.trans hEw4) hCw5 (fun k hs hk => by have hn := hO1.ne hs; omega)), ?_⟩
  refine anyM_run (hw := show Ext w2 w5 from (Ext.ownS (hEw3.trans hEw4) hCw5 (fun k hs hk => by have hn := hO1.ne hs; omega))) hT101 [(7, 2, (.slice a3 (4 + 8) c1))] 1 255 (anyM_done (then_code (wpC_ret (body_rets (.slice a3 (4 + 8) c1) ?_))))
  have hX1 : Ext w w5 := (Ext.ownS (((hEw1.trans hEw2).trans hEw3).trans hEw4) hCw5 (fun k hs hk => by have hn := hO1.ne hs; omega))
  exact ⟨_, _, rfl, by have hz := hOw5; simpa [nonB, recB, entB, celB] using (hz.es.mono (lo' := w.heap.size) (hi' := w5.heap.size) (by omega) (by omega)), hX1⟩

theorem c_rRecord (x : Rec)  (w : World)  :
    Calls Tryd.prog 59 #[(vA (recC x))] w (Ret fun r w' => ∃ a0 ca0, r = (.slice a0 45 ca0) ∧ Es u8v w.heap.size w'.heap.size w' a0 45 ca0 (recB x) ∧ Ext w w') := by
  refine calls_of (n := 13) (σ := [(0, (vA (recC x)))]) Tryd.func59 rfl ?_
  refine wpC_seq (wpC_region (wpF_step (op_new (some 1) (Instr.box 72 (vA (recC x))) (vP w.heap.size 0) (recC x) 72 ?_)))
  intro w1 hBw1 hEw1
  have hzw1 := hEw1.size; have hlw1 := hBw1.lt
  refine wpF_run 1 [(2, (.slice none 0 0))] (wpF_end (then_code (wpC_seq (wpC_drawM (Ext w1.drew) 11 [(4, 2, 0), (5, 8, 1), (6, 16, 2), (7, 2, 0), (8, 64, 8), (9, 128, 16), (10, 288, 36), (11, 2, 0), (12, 1024, 128), (13, 2560, 320), (3, 4096, 1023)] (fun hT133 => ?_)))))
  have hEw2 : Ext w1 w1.drew := Ext.drew w1
  generalize w1.drew = w2 at hEw2 ⊢
  have hzw2 := hEw2.size
  refine anyM_run hT133 [(0, 3, (vP w.heap.size 0))] 1 1 (anyM_take hT133 1 3 (some 4) (vB x.st) (yld_val (Instr.loadAt 5 (vP w.heap.size 0)) (fun w' hC => rn_ld (((hBw1.ext hEw2).ext hC).cell rfl))) (anyM_run hT133 [(3, 6, (vP w.heap.size 1))] 1 11 (anyM_take hT133 4 27 (some 7) (vA (nonC x.non)) (yld_val (Instr.loadAt 70 (vP w.heap.size 1)) (fun w' hC => rn_lda (vs := nonC x.non) (((hBw1.ext hEw2).ext hC).at 1 (nonC x.non) (rec_non _)) (by rw [nonC_len]; kernel_rfl))) (anyM_run hT133 [(7, 10, (vP w.heap.size 3))] 1 155 (anyM_take hT133 8 411 (some 11) (.slice (pA w.heap.size 3) 32 32) (yld_val (Instr.sliceAt 27 (vP w.heap.size 3) none none none) (fun w' hC => rn_sla (E := 5) (sz := 1) (m := 32))) ?_)))))
  have hS1 : Bs w.heap.size (w.heap.size + 1) w2 (pA w.heap.size 3) 32 32 x.tag.l := Bs.of_at ((hBw1.ext hEw2).at 3 (digC x.tag) (rec_tag _)) ((hBw1.ext hEw2)).lt x.tag.h.symm (by decide) (by omega) (by omega)
  refine anyM_two 2 5 415 443 ?_ ?_
  · refine op_new (some 5) (Instr.buildSlice 91 1 #[(0, (vB x.st))]) (.slice (pA w2.heap.size 0) 1 1) [(vB x.st)] 5 ?_
    intro w3 hBw3 hEw3
    have hzw3 := hEw3.size; have hlw3 := hBw3.lt
    have hSw3 : Bs w2.heap.size (w2.heap.size + 1) w3 (pA w2.heap.size 0) 1 1 [UInt8.ofNat x.st] := Bs.of_blk hBw3 (u8s_sing x.hst) rfl (Nat.le_refl _) (by decide) (Nat.le_refl _) (Nat.lt_succ_self _)
    refine ⟨.inr hEw3, ?_⟩
    refine anyM_one 5 447 (op_call (some 8) (c_rNoncePut x.non _) ?_)
    rintro _ w4 ⟨a1, ca1, rfl, hFz1_0, hEw4⟩
    have hzw4 := hEw4.size
    have hlea1 := hFz1_0.le
    have hba1 := hFz1_0.bs
    refine ⟨.inr (hEw3.trans hEw4), ?_⟩
    have hO1 : Cs.Own u8v w2.heap.size (w2.heap.size + 1) w4 (pA w2.heap.size 0) 1 1 5 ([UInt8.ofNat x.st]) := Cs.Own.of_blk (hBw3.ext hEw4) (by simp) (by first | rfl | exact (u8s_sing x.hst)) (hSw3.ext hEw4).len_eq (Nat.le_refl _) (by simp only [maxLen]; omega) (Nat.le_refl _) (Nat.lt_succ_self _)
    refine anyM_one 6 511 (op_append (some 9) 91 91 5 1 (.int .u8 0) hO1 hba1.es (fun _ => rfl) ?_)
    intro a2 c1 w5 hOw5 hCw5
    have hzw5 := hCw5.size
    have hSw5 := hOw5.bs
    refine ⟨.inr (Ext.ownS (hEw3.trans hEw4) hCw5 (fun k hs hk => by have hn := hO1.ne hs; omega)), ?_⟩
    have hK1 := (((((hS1.ext hEw3)).ext hEw4)).chg hCw5 (fun k h1 h2 hs => by have hn := hO1.ne hs; omega))
    refine anyM_one 9 1023 (op_append (some 12) 91 91 5 1 (.int .u8 0) hOw5 hK1.es (fun _ => rfl) ?_)
    intro a3 c2 w6 hOw6 hCw6
    have hzw6 := hCw6.size
    have hSw6 := hOw6.bs
    have hX1 : Ext w2 w6 := (Ext.ownS (Ext.ownS (hEw3.trans hEw4) hCw5 (fun k hs hk => by have hn := hO1.ne hs; omega)) hCw6 (fun k hs hk => by have hn := hOw5.ne hs; omega))
    refine ⟨.inr hX1, ?_⟩
    exact anyM_run (hw := show Ext w2 w6 from hX1) hT133 [(10, 2, (.slice a3 (1 + 12 + 32) c2))] 1 2047 (anyM_done (then_code (wpC_ret (body_rets (.slice a3 (1 + 12 + 32) c2) (⟨_, _, rfl, by have hz := hOw6; simpa [nonB, recB, entB, celB] using (hz.es.mono (lo' := w.heap.size) (hi' := w6.heap.size) (by omega) (by omega)), ((hEw1.trans hEw2).trans hX1)⟩)))))
  · refine op_call (some 8) (c_rNoncePut x.non _) ?_
    rintro _ w7 ⟨a4, ca4, rfl, hFz2_0, hEw7⟩
    have hzw7 := hEw7.size
    have hlea4 := hFz2_0.le
    have hba4 := hFz2_0.bs
    refine ⟨.inr hEw7, ?_⟩
    refine anyM_one 2 447 (op_new (some 5) (Instr.buildSlice 91 1 #[(0, (vB x.st))]) (.slice (pA w7.heap.size 0) 1 1) [(vB x.st)] 5 ?_)
    intro w8 hBw8 hEw8
    have hzw8 := hEw8.size; have hlw8 := hBw8.lt
    have hSw8 : Bs w7.heap.size (w7.heap.size + 1) w8 (pA w7.heap.size 0) 1 1 [UInt8.ofNat x.st] := Bs.of_blk hBw8 (u8s_sing x.hst) rfl (Nat.le_refl _) (by decide) (Nat.le_refl _) (Nat.lt_succ_self _)
    refine ⟨.inr (hEw7.trans hEw8), ?_⟩
    have hO2 : Cs.Own u8v w7.heap.size (w7.heap.size + 1) w8 (pA w7.heap.size 0) 1 1 5 ([UInt8.ofNat x.st]) := Cs.Own.of_blk hBw8 (by simp) (by first | rfl | exact (u8s_sing x.hst)) hSw8.len_eq (Nat.le_refl _) (by simp only [maxLen]; omega) (Nat.le_refl _) (Nat.lt_succ_self _)
    refine anyM_one 6 511 (op_append (some 9) 91 91 5 1 (.int .u8 0) hO2 (hba4.ext hEw8).es (fun _ => rfl) ?_)
    intro a5 c3 w9 hOw9 hCw9
    have hzw9 := hCw9.size
    have hSw9 := hOw9.bs
    refine ⟨.inr (Ext.ownS (hEw7.trans hEw8) hCw9 (fun k hs hk => by have hn := hO2.ne hs; omega)), ?_⟩
    have hK2 := (((((hS1.ext hEw7)).ext hEw8)).chg hCw9 (fun k h1 h2 hs => by have hn := hO2.ne hs; omega))
    refine anyM_one 9 1023 (op_append (some 12) 91 91 5 1 (.int .u8 0) hOw9 hK2.es (fun _ => rfl) ?_)
    intro a6 c4 w10 hOw10 hCw10
    have hzw10 := hCw10.size
    have hSw10 := hOw10.bs
    have hX2 : Ext w2 w10 := (Ext.ownS (Ext.ownS (hEw7.trans hEw8) hCw9 (fun k hs hk => by have hn := hO2.ne hs; omega)) hCw10 (fun k hs hk => by have hn := hOw9.ne hs; omega))
    refine ⟨.inr hX2, ?_⟩
    exact anyM_run (hw := show Ext w2 w10 from hX2) hT133 [(10, 2, (.slice a6 (1 + 12 + 32) c4))] 1 2047 (anyM_done (then_code (wpC_ret (body_rets (.slice a6 (1 + 12 + 32) c4) (⟨_, _, rfl, by have hz := hOw10; simpa [nonB, recB, entB, celB] using (hz.es.mono (lo' := w.heap.size) (hi' := w10.heap.size) (by omega) (by omega)), ((hEw1.trans hEw2).trans hX2)⟩)))))

theorem c_rEntry (x : Ent)  (w : World)  :
    Calls Tryd.prog 60 #[(vA (entC x))] w (Ret fun r w' => ∃ a0 ca0, r = (.slice a0 33 ca0) ∧ Es u8v w.heap.size w'.heap.size w' a0 33 ca0 (entB x) ∧ Ext w w') := by
  refine calls_of (n := 9) (σ := [(0, (vA (entC x)))]) Tryd.func60 rfl ?_
  refine wpC_seq (wpC_region (wpF_step (op_new (some 1) (Instr.box 75 (vA (entC x))) (vP w.heap.size 0) (entC x) 75 ?_)))
  intro w1 hBw1 hEw1
  have hzw1 := hEw1.size; have hlw1 := hBw1.lt
  refine wpF_run 1 [(2, (.slice none 0 0))] (wpF_end (then_code (wpC_seq (wpC_drawM (Ext w1.drew) 7 [(4, 2, 0), (5, 8, 1), (6, 16, 2), (7, 2, 0), (8, 64, 8), (9, 160, 20), (3, 256, 63)] (fun hT197 => ?_)))))
  have hEw2 : Ext w1 w1.drew := Ext.drew w1
  generalize w1.drew = w2 at hEw2 ⊢
  have hzw2 := hEw2.size
  refine anyM_run hT197 [(0, 3, (vP w.heap.size 0))] 1 1 (anyM_take hT197 1 3 (some 4) (vB x.st) (yld_val (Instr.loadAt 5 (vP w.heap.size 0)) (fun w' hC => rn_ld (((hBw1.ext hEw2).ext hC).cell rfl))) (anyM_run hT197 [(3, 6, (vP w.heap.size 1))] 1 11 (anyM_take hT197 4 27 (some 7) (.slice (pA w.heap.size 1) 32 32) (yld_val (Instr.sliceAt 27 (vP w.heap.size 1) none none none) (fun w' hC => rn_sla (E := 5) (sz := 1) (m := 32))) ?_)))
  have hS1 : Bs w.heap.size (w.heap.size + 1) w2 (pA w.heap.size 1) 32 32 x.dg.l := Bs.of_at ((hBw1.ext hEw2).at 1 (digC x.dg) (ent_dg _)) ((hBw1.ext hEw2)).lt x.dg.h.symm (by decide) (by omega) (by omega)
  refine anyM_one 2 31 (op_new (some 5) (Instr.buildSlice 91 1 #[(0, (vB x.st))]) (.slice (pA w2.heap.size 0) 1 1) [(vB x.st)] 5 ?_)
  intro w3 hBw3 hEw3
  have hzw3 := hEw3.size; have hlw3 := hBw3.lt
  have hSw3 : Bs w2.heap.size (w2.heap.size + 1) w3 (pA w2.heap.size 0) 1 1 [UInt8.ofNat x.st] := Bs.of_blk hBw3 (u8s_sing x.hst) rfl (Nat.le_refl _) (by decide) (Nat.le_refl _) (Nat.lt_succ_self _)
  refine ⟨.inr hEw3, ?_⟩
  have hO1 : Cs.Own u8v w2.heap.size (w2.heap.size + 1) w3 (pA w2.heap.size 0) 1 1 5 ([UInt8.ofNat x.st]) := Cs.Own.of_blk hBw3 (by simp) (by first | rfl | exact (u8s_sing x.hst)) hSw3.len_eq (Nat.le_refl _) (by simp only [maxLen]; omega) (Nat.le_refl _) (Nat.lt_succ_self _)
  refine anyM_one 5 63 (op_append (some 8) 91 91 5 1 (.int .u8 0) hO1 (hS1.ext hEw3).es (fun _ => rfl) ?_)
  intro a1 c1 w4 hOw4 hCw4
  have hzw4 := hCw4.size
  have hSw4 := hOw4.bs
  refine ⟨.inr (Ext.ownS hEw3 hCw4 (fun k hs hk => by have hn := hO1.ne hs; omega)), ?_⟩
  refine anyM_run (hw := show Ext w2 w4 from (Ext.ownS hEw3 hCw4 (fun k hs hk => by have hn := hO1.ne hs; omega))) hT197 [(6, 2, (.slice a1 (1 + 32) c1))] 1 127 (anyM_done (then_code (wpC_ret (body_rets (.slice a1 (1 + 32) c1) ?_))))
  have hX1 : Ext w w4 := (Ext.ownS ((hEw1.trans hEw2).trans hEw3) hCw4 (fun k hs hk => by have hn := hO1.ne hs; omega))
  exact ⟨_, _, rfl, by have hz := hOw4; simpa [nonB, recB, entB, celB] using (hz.es.mono (lo' := w.heap.size) (hi' := w4.heap.size) (by omega) (by omega)), hX1⟩

theorem c_PutRecord (x : Rec)  (w : World) (hp0 : chkR x = 0) :
    Calls Tryd.prog 48 #[(vA (recC x))] w (Ret fun r w' => ∃ a0, r = (.tuple #[(.slice a0 45 45), (vI 0)]) ∧ Bs w.heap.size w'.heap.size w' a0 45 45 (recB x) ∧ Ext w w') := by
  refine calls_of (n := 20) (σ := [(0, (vA (recC x)))]) Tryd.func48 rfl ?_
  refine wpC_seq (wpC_region (wpF_step (op_new (some 1) (Instr.box 72 (vA (recC x))) (vP w.heap.size 0) (recC x) 72 ?_)))
  intro w1 hBw1 hEw1
  have hzw1 := hEw1.size; have hlw1 := hBw1.lt
  refine wpF_run 2 [(3, (vI 0)), (2, (.slice none 0 0))] (wpF_end (then_code (wpC_seq (wpC_seq (wpC_region (wpF_step (op_v (some 5) (Instr.loadAt 72 (vP w.heap.size 0)) (vA (recC x)) (rn_lda (vs := recC x) (hBw1.all) (by rw [recC_len]; kernel_rfl)) ?_)))))))
  refine wpF_step (op_call (some 6) (c_CheckRecord x _) ?_)
  rintro _ w2 ⟨rfl, hEw2⟩
  have hzw2 := hEw2.size
  refine wpF_run 1 [(4, (vI (chkR x)))] (wpF_end (then_code (wpC_seq (wpC_region (wpF_run 1 [(7, (vI (chkR x)))] (wpF_step (op_b (some 8) (((chkR x : Nat) : Int) != ((0 : Nat) : Int)) false (cmpNeF (by omega)) ?_)))))))
  refine wpF_end (then_code (wpC_false (wpC_skip (then_code (wpC_seq (wpC_drawM (Ext w2.drew) 12 [(11, 2, 0), (12, 1024, 1), (13, 2048, 2), (14, 2, 0), (15, 8192, 8), (16, 16384, 16), (17, 2, 0), (18, 65536, 64), (19, 167936, 164), (20, 262144, 288), (3, 524288, 1023), (4, 0, 2047)] (fun hT258 => ?_)))))))
  have hEw3 : Ext w2 w2.drew := Ext.drew w2
  generalize w2.drew = w3 at hEw3 ⊢
  have hzw3 := hEw3.size
  refine anyM_run hT258 [(0, 10, (vP w.heap.size 0))] 1 1 (anyM_take hT258 1 3 (some 11) (vB x.st) (yld_val (Instr.loadAt 5 (vP w.heap.size 0)) (fun w' hC => rn_ld (((((hBw1.ext hEw2)).ext hEw3).ext hC).cell rfl))) (anyM_run hT258 [(3, 13, (vP w.heap.size 1))] 1 11 (anyM_take hT258 4 27 (some 14) (vA (nonC x.non)) (yld_val (Instr.loadAt 70 (vP w.heap.size 1)) (fun w' hC => rn_lda (vs := nonC x.non) (((((hBw1.ext hEw2)).ext hEw3).ext hC).at 1 (nonC x.non) (rec_non _)) (by rw [nonC_len]; kernel_rfl))) (anyM_run hT258 [(6, 16, (vP w.heap.size 3))] 1 91 (anyM_take hT258 7 219 (some 17) (.slice (pA w.heap.size 3) 32 32) (yld_val (Instr.sliceAt 27 (vP w.heap.size 3) none none none) (fun w' hC => rn_sla (E := 5) (sz := 1) (m := 32))) ?_)))))
  have hS1 : Bs w.heap.size (w.heap.size + 1) w3 (pA w.heap.size 3) 32 32 x.tag.l := Bs.of_at ((((hBw1.ext hEw2)).ext hEw3).at 3 (digC x.tag) (rec_tag _)) ((((hBw1.ext hEw2)).ext hEw3)).lt x.tag.h.symm (by decide) (by omega) (by omega)
  refine anyM_two 2 5 223 251 ?_ ?_
  · refine op_new (some 12) (Instr.buildSlice 91 1 #[(0, (vB x.st))]) (.slice (pA w3.heap.size 0) 1 1) [(vB x.st)] 5 ?_
    intro w4 hBw4 hEw4
    have hzw4 := hEw4.size; have hlw4 := hBw4.lt
    have hSw4 : Bs w3.heap.size (w3.heap.size + 1) w4 (pA w3.heap.size 0) 1 1 [UInt8.ofNat x.st] := Bs.of_blk hBw4 (u8s_sing x.hst) rfl (Nat.le_refl _) (by decide) (Nat.le_refl _) (Nat.lt_succ_self _)
    refine ⟨.inr hEw4, ?_⟩
    refine anyM_one 5 255 (op_call (some 15) (c_noncePut x.non _) ?_)
    rintro _ w5 ⟨a1, rfl, hFz2_0, hEw5⟩
    have hzw5 := hEw5.size
    refine ⟨.inr (hEw4.trans hEw5), ?_⟩
    refine anyM_one 8 511 (op_new (some 18) (Instr.buildSlice 110 3 #[(0, (.slice (pA w3.heap.size 0) 1 1)), (1, (.slice a1 12 12)), (2, (.slice (pA w.heap.size 3) 32 32))]) (.slice (pA w5.heap.size 0) 3 3) [(.slice (pA w3.heap.size 0) 1 1), (.slice a1 12 12), (.slice (pA w.heap.size 3) 32 32)] 91 ?_)
    intro w6 hBw6 hEw6
    have hzw6 := hEw6.size; have hlw6 := hBw6.lt
    have hK1 := (((((hS1.ext hEw4)).ext hEw5)).ext hEw6)
    have hSw6 : Ps 0 w6.heap.size w6 (pA w5.heap.size 0) 3 3 [(.slice (pA w3.heap.size 0) 1 1), (.slice a1 12 12), (.slice (pA w.heap.size 3) 32 32)] [[UInt8.ofNat x.st], nonB x.non, x.tag.l] := Ps.of_new hBw6 rfl (by decide) (Parts.cons (Part.at (((hSw4.ext hEw5)).ext hEw6)) (Parts.cons (Part.at (hFz2_0.ext hEw6)) (Parts.cons (Part.at hK1) Parts.nil)))
    refine ⟨.inr ((hEw4.trans hEw5).trans hEw6), ?_⟩
    refine anyM_one 9 1023 (op_call (some 19) (c_Join _ hSw6 (by simp [sumLen, nonB, x.tag.h])) ?_)
    rintro _ w7 ⟨a2, rfl, hFz3_0, hFz3_1, hFz3_2, hFz3_3, hEw7⟩
    have hzw7 := hEw7.size
    have hla2 := hFz3_1.lt; have hna2 := hFz3_3
    have hSa2 : Bs a2 (a2 + 1) w7 (pA a2 0) (sumLen ([[UInt8.ofNat x.st], nonB x.non, x.tag.l])) (sumLen ([[UInt8.ofNat x.st], nonB x.non, x.tag.l])) (([[UInt8.ofNat x.st], nonB x.non, x.tag.l]).flatten) := Bs.of_blk hFz3_1 rfl hFz3_2 (Nat.le_refl _) (le_maxLen hna2) (Nat.le_refl _) (Nat.lt_succ_self _)
    rw [show sumLen ([[UInt8.ofNat x.st], nonB x.non, x.tag.l]) = 45 from by simp [sumLen, nonB, x.tag.h]]
    have hX1 : Ext w3 w7 := (((hEw4.trans hEw5).trans hEw6).trans hEw7)
    refine ⟨.inr hX1, ?_⟩
    refine anyM_run (hw := show Ext w3 w7 from hX1) hT258 [(10, 2, (.slice (pA a2 0) 45 45)), (11, 3, (vI 0))] 2 4095 (anyM_done (then_code (wpC_ret (body_rets (.tuple #[(.slice (pA a2 0) 45 45), (vI 0)]) ?_))))
    have hX2 : Ext w w7 := (((hEw1.trans hEw2).trans hEw3).trans hX1)
    have hz := hSa2
    rw [show sumLen ([[UInt8.ofNat x.st], nonB x.non, x.tag.l]) = 45 from by simp [sumLen, nonB, x.tag.h], show ([[UInt8.ofNat x.st], nonB x.non, x.tag.l]).flatten = recB x from by simp [recB, entB, celB]] at hz
    exact ⟨_, rfl, hz.mono (by omega) (by omega), hX2⟩
  · refine op_call (some 15) (c_noncePut x.non _) ?_
    rintro _ w8 ⟨a3, rfl, hFz4_0, hEw8⟩
    have hzw8 := hEw8.size
    refine ⟨.inr hEw8, ?_⟩
    refine anyM_one 2 255 (op_new (some 12) (Instr.buildSlice 91 1 #[(0, (vB x.st))]) (.slice (pA w8.heap.size 0) 1 1) [(vB x.st)] 5 ?_)
    intro w9 hBw9 hEw9
    have hzw9 := hEw9.size; have hlw9 := hBw9.lt
    have hSw9 : Bs w8.heap.size (w8.heap.size + 1) w9 (pA w8.heap.size 0) 1 1 [UInt8.ofNat x.st] := Bs.of_blk hBw9 (u8s_sing x.hst) rfl (Nat.le_refl _) (by decide) (Nat.le_refl _) (Nat.lt_succ_self _)
    refine ⟨.inr (hEw8.trans hEw9), ?_⟩
    refine anyM_one 8 511 (op_new (some 18) (Instr.buildSlice 110 3 #[(0, (.slice (pA w8.heap.size 0) 1 1)), (1, (.slice a3 12 12)), (2, (.slice (pA w.heap.size 3) 32 32))]) (.slice (pA w9.heap.size 0) 3 3) [(.slice (pA w8.heap.size 0) 1 1), (.slice a3 12 12), (.slice (pA w.heap.size 3) 32 32)] 91 ?_)
    intro w10 hBw10 hEw10
    have hzw10 := hEw10.size; have hlw10 := hBw10.lt
    have hK2 := (((((hS1.ext hEw8)).ext hEw9)).ext hEw10)
    have hSw10 : Ps 0 w10.heap.size w10 (pA w9.heap.size 0) 3 3 [(.slice (pA w8.heap.size 0) 1 1), (.slice a3 12 12), (.slice (pA w.heap.size 3) 32 32)] [[UInt8.ofNat x.st], nonB x.non, x.tag.l] := Ps.of_new hBw10 rfl (by decide) (Parts.cons (Part.at (hSw9.ext hEw10)) (Parts.cons (Part.at (((hFz4_0.ext hEw9)).ext hEw10)) (Parts.cons (Part.at hK2) Parts.nil)))
    refine ⟨.inr ((hEw8.trans hEw9).trans hEw10), ?_⟩
    refine anyM_one 9 1023 (op_call (some 19) (c_Join _ hSw10 (by simp [sumLen, nonB, x.tag.h])) ?_)
    rintro _ w11 ⟨a4, rfl, hFz5_0, hFz5_1, hFz5_2, hFz5_3, hEw11⟩
    have hzw11 := hEw11.size
    have hla4 := hFz5_1.lt; have hna4 := hFz5_3
    have hSa4 : Bs a4 (a4 + 1) w11 (pA a4 0) (sumLen ([[UInt8.ofNat x.st], nonB x.non, x.tag.l])) (sumLen ([[UInt8.ofNat x.st], nonB x.non, x.tag.l])) (([[UInt8.ofNat x.st], nonB x.non, x.tag.l]).flatten) := Bs.of_blk hFz5_1 rfl hFz5_2 (Nat.le_refl _) (le_maxLen hna4) (Nat.le_refl _) (Nat.lt_succ_self _)
    rw [show sumLen ([[UInt8.ofNat x.st], nonB x.non, x.tag.l]) = 45 from by simp [sumLen, nonB, x.tag.h]]
    have hX3 : Ext w3 w11 := (((hEw8.trans hEw9).trans hEw10).trans hEw11)
    refine ⟨.inr hX3, ?_⟩
    refine anyM_run (hw := show Ext w3 w11 from hX3) hT258 [(10, 2, (.slice (pA a4 0) 45 45)), (11, 3, (vI 0))] 2 4095 (anyM_done (then_code (wpC_ret (body_rets (.tuple #[(.slice (pA a4 0) 45 45), (vI 0)]) ?_))))
    have hX4 : Ext w w11 := (((hEw1.trans hEw2).trans hEw3).trans hX3)
    have hz := hSa4
    rw [show sumLen ([[UInt8.ofNat x.st], nonB x.non, x.tag.l]) = 45 from by simp [sumLen, nonB, x.tag.h], show ([[UInt8.ofNat x.st], nonB x.non, x.tag.l]).flatten = recB x from by simp [recB, entB, celB]] at hz
    exact ⟨_, rfl, hz.mono (by omega) (by omega), hX4⟩

theorem c_PutEntry (x : Ent)  (w : World) (hp0 : chkE x = 0) :
    Calls Tryd.prog 51 #[(vA (entC x))] w (Ret fun r w' => ∃ a0, r = (.tuple #[(.slice a0 33 33), (vI 0)]) ∧ Bs w.heap.size w'.heap.size w' a0 33 33 (entB x) ∧ Ext w w') := by
  refine calls_of (n := 17) (σ := [(0, (vA (entC x)))]) Tryd.func51 rfl ?_
  refine wpC_seq (wpC_region (wpF_step (op_new (some 1) (Instr.box 75 (vA (entC x))) (vP w.heap.size 0) (entC x) 75 ?_)))
  intro w1 hBw1 hEw1
  have hzw1 := hEw1.size; have hlw1 := hBw1.lt
  refine wpF_run 2 [(3, (vI 0)), (2, (.slice none 0 0))] (wpF_end (then_code (wpC_seq (wpC_seq (wpC_region (wpF_step (op_v (some 5) (Instr.loadAt 75 (vP w.heap.size 0)) (vA (entC x)) (rn_lda (vs := entC x) (hBw1.all) (by rw [entC_len]; kernel_rfl)) ?_)))))))
  refine wpF_step (op_call (some 6) (c_CheckEntry x _) ?_)
  rintro _ w2 ⟨rfl, hEw2⟩
  have hzw2 := hEw2.size
  refine wpF_run 1 [(4, (vI (chkE x)))] (wpF_end (then_code (wpC_seq (wpC_region (wpF_run 1 [(7, (vI (chkE x)))] (wpF_step (op_b (some 8) (((chkE x : Nat) : Int) != ((0 : Nat) : Int)) false (cmpNeF (by omega)) ?_)))))))
  refine wpF_end (then_code (wpC_false (wpC_skip (then_code (wpC_seq (wpC_drawM (Ext w2.drew) 9 [(11, 2, 0), (12, 1024, 1), (13, 2048, 2), (14, 2, 0), (15, 8192, 8), (16, 20480, 20), (17, 32768, 32), (3, 65536, 127), (4, 0, 255)] (fun hT348 => ?_)))))))
  have hEw3 : Ext w2 w2.drew := Ext.drew w2
  generalize w2.drew = w3 at hEw3 ⊢
  have hzw3 := hEw3.size
  refine anyM_run hT348 [(0, 10, (vP w.heap.size 0))] 1 1 (anyM_take hT348 1 3 (some 11) (vB x.st) (yld_val (Instr.loadAt 5 (vP w.heap.size 0)) (fun w' hC => rn_ld (((((hBw1.ext hEw2)).ext hEw3).ext hC).cell rfl))) (anyM_run hT348 [(3, 13, (vP w.heap.size 1))] 1 11 (anyM_take hT348 4 27 (some 14) (.slice (pA w.heap.size 1) 32 32) (yld_val (Instr.sliceAt 27 (vP w.heap.size 1) none none none) (fun w' hC => rn_sla (E := 5) (sz := 1) (m := 32))) ?_)))
  have hS1 : Bs w.heap.size (w.heap.size + 1) w3 (pA w.heap.size 1) 32 32 x.dg.l := Bs.of_at ((((hBw1.ext hEw2)).ext hEw3).at 1 (digC x.dg) (ent_dg _)) ((((hBw1.ext hEw2)).ext hEw3)).lt x.dg.h.symm (by decide) (by omega) (by omega)
  refine anyM_one 2 31 (op_new (some 12) (Instr.buildSlice 91 1 #[(0, (vB x.st))]) (.slice (pA w3.heap.size 0) 1 1) [(vB x.st)] 5 ?_)
  intro w4 hBw4 hEw4
  have hzw4 := hEw4.size; have hlw4 := hBw4.lt
  have hSw4 : Bs w3.heap.size (w3.heap.size + 1) w4 (pA w3.heap.size 0) 1 1 [UInt8.ofNat x.st] := Bs.of_blk hBw4 (u8s_sing x.hst) rfl (Nat.le_refl _) (by decide) (Nat.le_refl _) (Nat.lt_succ_self _)
  refine ⟨.inr hEw4, ?_⟩
  refine anyM_one 5 63 (op_new (some 15) (Instr.buildSlice 110 2 #[(0, (.slice (pA w3.heap.size 0) 1 1)), (1, (.slice (pA w.heap.size 1) 32 32))]) (.slice (pA w4.heap.size 0) 2 2) [(.slice (pA w3.heap.size 0) 1 1), (.slice (pA w.heap.size 1) 32 32)] 91 ?_)
  intro w5 hBw5 hEw5
  have hzw5 := hEw5.size; have hlw5 := hBw5.lt
  have hSw5 : Ps 0 w5.heap.size w5 (pA w4.heap.size 0) 2 2 [(.slice (pA w3.heap.size 0) 1 1), (.slice (pA w.heap.size 1) 32 32)] [[UInt8.ofNat x.st], x.dg.l] := Ps.of_new hBw5 rfl (by decide) (Parts.cons (Part.at (hSw4.ext hEw5)) (Parts.cons (Part.at (((hS1.ext hEw4)).ext hEw5)) Parts.nil))
  refine ⟨.inr (hEw4.trans hEw5), ?_⟩
  refine anyM_one 6 127 (op_call (some 16) (c_Join _ hSw5 (by simp [sumLen, nonB, x.dg.h])) ?_)
  rintro _ w6 ⟨a1, rfl, hFz2_0, hFz2_1, hFz2_2, hFz2_3, hEw6⟩
  have hzw6 := hEw6.size
  have hla1 := hFz2_1.lt; have hna1 := hFz2_3
  have hSa1 : Bs a1 (a1 + 1) w6 (pA a1 0) (sumLen ([[UInt8.ofNat x.st], x.dg.l])) (sumLen ([[UInt8.ofNat x.st], x.dg.l])) (([[UInt8.ofNat x.st], x.dg.l]).flatten) := Bs.of_blk hFz2_1 rfl hFz2_2 (Nat.le_refl _) (le_maxLen hna1) (Nat.le_refl _) (Nat.lt_succ_self _)
  rw [show sumLen ([[UInt8.ofNat x.st], x.dg.l]) = 33 from by simp [sumLen, nonB, x.dg.h]]
  refine ⟨.inr ((hEw4.trans hEw5).trans hEw6), ?_⟩
  refine anyM_run (hw := show Ext w3 w6 from ((hEw4.trans hEw5).trans hEw6)) hT348 [(7, 2, (.slice (pA a1 0) 33 33)), (8, 3, (vI 0))] 2 511 (anyM_done (then_code (wpC_ret (body_rets (.tuple #[(.slice (pA a1 0) 33 33), (vI 0)]) ?_))))
  have hX1 : Ext w w6 := (((((hEw1.trans hEw2).trans hEw3).trans hEw4).trans hEw5).trans hEw6)
  have hz := hSa1
  rw [show sumLen ([[UInt8.ofNat x.st], x.dg.l]) = 33 from by simp [sumLen, nonB, x.dg.h], show ([[UInt8.ofNat x.st], x.dg.l]).flatten = entB x from by simp [recB, entB, celB]] at hz
  exact ⟨_, rfl, hz.mono (by omega) (by omega), hX1⟩

end Go.Proofs.YthjplefmfjkhfaaDoor
