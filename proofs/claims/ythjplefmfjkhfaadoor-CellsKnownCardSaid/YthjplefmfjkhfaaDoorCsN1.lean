/- CsN1: what each function does, by its own code. No condition beyond those of each statement. -/
import Derived.Test.YthjplefmfjkhfaaDoorCsS6
import Derived.Test.YthjplefmfjkhfaaDoorCsR3
import Derived.Test.YthjplefmfjkhfaaDoorCsNod
namespace Go.Proofs.YthjplefmfjkhfaaDoor
open Go Go.RowKit Go.Cs
set_option maxRecDepth 100000
set_option linter.all false
set_option linter.unusedVariables false

theorem c_kind (v : Nat)  (w : World)  :
    Calls Tryd.prog 43 #[(vB v)] w (Ret fun r w' => r = (vI (min v 1)) ∧ w = w') := by
  refine calls_of (n := 6) (σ := [(0, (vB v))]) Tryd.func43 rfl ?_
  refine wpC_seq (wpC_region (wpF_run 1 [(2, (vI 0))] (wpF_end (then_code (wpC_seq (wpC_region (wpF_run 1 [(3, (vB v))] (wpF_step (op_eqv (some 4) (.int .u8 (if ((1 : Nat) : Int) < ((v : Nat) : Int) then ((1 : Nat) : Int) else ((v : Nat) : Int))) (vB (min v 1)) (congrArg _ (minN _ _)) ?_)))))))))
  refine wpF_step (op_in (some 5) .i64 (IntKind.i64.wrap ((min v 1 : Nat) : Int)) (min v 1) (wrapS rfl (by omega) (by omega)) ?_)
  exact wpF_run 1 [(2, (vI (min v 1)))] (wpF_end (then_code (wpC_ret (body_rets (vI (min v 1)) (⟨rfl, rfl⟩)))))

theorem c_eachR (x : R4)  (w : World)  :
    Calls Tryd.prog 46 #[(vA (r4C x)), (.func (.func 62) #[] #[])] w (Ret fun r w' => r = (vI (chkRs x)) ∧ Ext w w') := by
  refine calls_of (n := 19) (σ := [(0, (vA (r4C x))), (1, (.func (.func 62) #[] #[]))]) Tryd.func46 rfl ?_
  refine wpC_seq (wpC_region (wpF_step (op_new (some 2) (Instr.box 73 (vA (r4C x))) (vP w.heap.size 0) (r4C x) 73 ?_)))
  intro w1 hBw1 hEw1
  have hzw1 := hEw1.size; have hlw1 := hBw1.lt
  refine wpF_run 1 [(4, (vI 0))] (wpF_end (then_code (wpC_seq (wpC_seq (wpC_region (wpF_step (op_v (some 8) (Instr.loadAt 73 (vP w.heap.size 0)) (vA (r4C x)) (rn_lda (vs := r4C x) (hBw1.all) (by rw [r4C_len]; kernel_rfl)) ?_)))))))
  refine wpF_run 1 [(9, (vI 0))] (wpF_end (then_code (wpC_block (wpC_loop (X := Nat) (fun i => [(9, (vI i))]) [4, 6, 7, 10, 11, 12, 13, 14, 15, 16, 17, 18] (fun i w2 => i ≤ 4 ∧ chkA chkR x.get i = 0 ∧ Ext w w2) (fun i => 4 - i) 0 (by kernel_rfl) ⟨by omega, rfl, hEw1⟩ ?_))))
  rintro i dw2 w2 ⟨hi, hz, hEl⟩
  have hzl := hEl.size
  refine wpC_seq (wpC_region (wpF_step (op_split (some 10) (decide (((i : Nat) : Int) < ((4 : Nat) : Int))) (fun hc10 => ?_) (fun hc10 => ?_))))
  · replace hc10 : i < 4 := by have := of_d_t hc10; omega
    refine wpF_end (then_code (wpC_seq (wpC_true (wpC_skip (then_code (wpC_seq (wpC_block (wpC_seq (wpC_region ?_)))))))))
    refine wpF_step (op_v (some 11) (Instr.index 73 (vA (r4C x)) (vI i)) (vA (recC (x.get i))) (rn_idx (E := 72) (m := 4) (sz := 35) (us := recC (x.get i)) (by omega) (r4_at (by omega))) ?_)
    refine wpF_step (op_new (some 6) (Instr.alloc 72 true (.tuple #[])) (vP w2.heap.size 0) (recC Rec.zero) 72 ?_)
    intro w3 hBw3 hEw3
    have hzw3 := hEw3.size; have hlw3 := hBw3.lt
    refine wpF_step (op_store 72 w2.heap.size 0 72 (vA (recC (x.get i))) (recC Rec.zero) (recC (x.get i)) hBw3 (by rw [recC_len]; kernel_rfl) (by first | (simp; done) | (simp; omega)) (recC_one _) ?_)
    intro w4 hBw4 hCw4
    have hzw4 := hCw4.size
    rw [setFrom_all _ _ (by simp)] at hBw4
    refine wpF_end (then_code (wpC_seq (wpC_region (wpF_run 1 [(12, (.func (.func 62) #[] #[]))] (wpF_step (op_v (some 13) (Instr.loadAt 72 (vP w2.heap.size 0)) (vA (recC (x.get i))) (rn_lda (vs := recC (x.get i)) (hBw4.all) (by rw [recC_len]; kernel_rfl)) ?_))))))
    refine wpF_step (op_call (some 14) (c_CheckRecord (x.get i) _) ?_)
    rintro _ w5 ⟨rfl, hEw5⟩
    have hzw5 := hEw5.size
    refine wpF_run 1 [(7, (vI (chkR (x.get i))))] (wpF_end (then_code (wpC_seq (wpC_region (wpF_run 1 [(15, (vI (chkR (x.get i))))] (wpF_step (op_split (some 16) ((((chkR (x.get i) : Nat) : Int) != ((0 : Nat) : Int))) (fun hc16 => ?_) (fun hc16 => ?_))))))))
    · replace hc16 : ¬ (chkR (x.get i) = 0) := by have := of_ne_t hc16; omega
      refine wpF_end (then_code (wpC_true (wpC_seq (wpC_region (wpF_run 2 [(4, (vI (chkR (x.get i)))), (17, (vI (chkR (x.get i))))] (wpF_end (then_code (wpC_ret (inBlock_ret ?_)))))))))
      refine then_ret (then_ret (inBlock_ret (then_ret (body_rets (vI (chkR (x.get i))) ?_))))
      have hX1 : Ext w w5 := ((Ext.own (hEl.trans hEw3) hCw4 (by omega)).trans hEw5)
      exact ⟨congrArg (fun z : Nat => vI z) (chkRs_stop (by omega) (by omega)), hX1⟩
    · replace hc16 : chkR (x.get i) = 0 := by have := of_ne_f hc16; omega
      refine wpF_end (then_code (wpC_false (wpC_skip (inBlock_normal (then_code (wpC_region (wpF_step (op_in (some 18) .i64 (IntKind.i64.wrap (((i : Nat) : Int) + ((1 : Nat) : Int))) (i + 1) (wrapS (by omega) (by omega) (by omega)) ?_))))))))
      refine wpF_run 1 [(9, (vI (i + 1)))] (wpF_end (then_normal ?_))
      have hX2 : Ext w w5 := ((Ext.own (hEl.trans hEw3) hCw4 (by omega)).trans hEw5)
      refine endR_mk (i + 1) ?_ ?_
      · exact ⟨by omega, by rw [chkA, if_pos hz]; omega, hX2⟩
      · first | omega | (dsimp only; omega)
  · replace hc10 : ¬ (i < 4) := by have := of_d_f hc10; omega
    refine wpF_end (then_code (wpC_seq (wpC_false (wpC_exit (then_exit (then_exit (inBlock_exit (then_code (wpC_seq ?_)))))))))
    refine wpC_region (wpF_run 1 [(4, (vI 0))] (wpF_end (then_code (wpC_ret (body_rets (vI 0) ?_)))))
    obtain rfl : i = 4 := by omega
    exact ⟨congrArg (fun z : Nat => vI z) (hz.symm), hEl⟩

theorem c_eachE (x : E4)  (w : World)  :
    Calls Tryd.prog 49 #[(vA (e4C x)), (.func (.func 63) #[] #[])] w (Ret fun r w' => r = (vI (chkEs x)) ∧ Ext w w') := by
  refine calls_of (n := 19) (σ := [(0, (vA (e4C x))), (1, (.func (.func 63) #[] #[]))]) Tryd.func49 rfl ?_
  refine wpC_seq (wpC_region (wpF_step (op_new (some 2) (Instr.box 76 (vA (e4C x))) (vP w.heap.size 0) (e4C x) 76 ?_)))
  intro w1 hBw1 hEw1
  have hzw1 := hEw1.size; have hlw1 := hBw1.lt
  refine wpF_run 1 [(4, (vI 0))] (wpF_end (then_code (wpC_seq (wpC_seq (wpC_region (wpF_step (op_v (some 8) (Instr.loadAt 76 (vP w.heap.size 0)) (vA (e4C x)) (rn_lda (vs := e4C x) (hBw1.all) (by rw [e4C_len]; kernel_rfl)) ?_)))))))
  refine wpF_run 1 [(9, (vI 0))] (wpF_end (then_code (wpC_block (wpC_loop (X := Nat) (fun i => [(9, (vI i))]) [4, 6, 7, 10, 11, 12, 13, 14, 15, 16, 17, 18] (fun i w2 => i ≤ 4 ∧ chkA chkE x.get i = 0 ∧ Ext w w2) (fun i => 4 - i) 0 (by kernel_rfl) ⟨by omega, rfl, hEw1⟩ ?_))))
  rintro i dw2 w2 ⟨hi, hz, hEl⟩
  have hzl := hEl.size
  refine wpC_seq (wpC_region (wpF_step (op_split (some 10) (decide (((i : Nat) : Int) < ((4 : Nat) : Int))) (fun hc10 => ?_) (fun hc10 => ?_))))
  · replace hc10 : i < 4 := by have := of_d_t hc10; omega
    refine wpF_end (then_code (wpC_seq (wpC_true (wpC_skip (then_code (wpC_seq (wpC_block (wpC_seq (wpC_region ?_)))))))))
    refine wpF_step (op_v (some 11) (Instr.index 76 (vA (e4C x)) (vI i)) (vA (entC (x.get i))) (rn_idx (E := 75) (m := 4) (sz := 33) (us := entC (x.get i)) (by omega) (e4_at (by omega))) ?_)
    refine wpF_step (op_new (some 6) (Instr.alloc 75 true (.tuple #[])) (vP w2.heap.size 0) (entC Ent.zero) 75 ?_)
    intro w3 hBw3 hEw3
    have hzw3 := hEw3.size; have hlw3 := hBw3.lt
    refine wpF_step (op_store 75 w2.heap.size 0 75 (vA (entC (x.get i))) (entC Ent.zero) (entC (x.get i)) hBw3 (by rw [entC_len]; kernel_rfl) (by first | (simp; done) | (simp; omega)) (entC_one _) ?_)
    intro w4 hBw4 hCw4
    have hzw4 := hCw4.size
    rw [setFrom_all _ _ (by simp)] at hBw4
    refine wpF_end (then_code (wpC_seq (wpC_region (wpF_run 1 [(12, (.func (.func 63) #[] #[]))] (wpF_step (op_v (some 13) (Instr.loadAt 75 (vP w2.heap.size 0)) (vA (entC (x.get i))) (rn_lda (vs := entC (x.get i)) (hBw4.all) (by rw [entC_len]; kernel_rfl)) ?_))))))
    refine wpF_step (op_call (some 14) (c_CheckEntry (x.get i) _) ?_)
    rintro _ w5 ⟨rfl, hEw5⟩
    have hzw5 := hEw5.size
    refine wpF_run 1 [(7, (vI (chkE (x.get i))))] (wpF_end (then_code (wpC_seq (wpC_region (wpF_run 1 [(15, (vI (chkE (x.get i))))] (wpF_step (op_split (some 16) ((((chkE (x.get i) : Nat) : Int) != ((0 : Nat) : Int))) (fun hc16 => ?_) (fun hc16 => ?_))))))))
    · replace hc16 : ¬ (chkE (x.get i) = 0) := by have := of_ne_t hc16; omega
      refine wpF_end (then_code (wpC_true (wpC_seq (wpC_region (wpF_run 2 [(4, (vI (chkE (x.get i)))), (17, (vI (chkE (x.get i))))] (wpF_end (then_code (wpC_ret (inBlock_ret ?_)))))))))
      refine then_ret (then_ret (inBlock_ret (then_ret (body_rets (vI (chkE (x.get i))) ?_))))
      have hX1 : Ext w w5 := ((Ext.own (hEl.trans hEw3) hCw4 (by omega)).trans hEw5)
      exact ⟨congrArg (fun z : Nat => vI z) (chkEs_stop (by omega) (by omega)), hX1⟩
    · replace hc16 : chkE (x.get i) = 0 := by have := of_ne_f hc16; omega
      refine wpF_end (then_code (wpC_false (wpC_skip (inBlock_normal (then_code (wpC_region (wpF_step (op_in (some 18) .i64 (IntKind.i64.wrap (((i : Nat) : Int) + ((1 : Nat) : Int))) (i + 1) (wrapS (by omega) (by omega) (by omega)) ?_))))))))
      refine wpF_run 1 [(9, (vI (i + 1)))] (wpF_end (then_normal ?_))
      have hX2 : Ext w w5 := ((Ext.own (hEl.trans hEw3) hCw4 (by omega)).trans hEw5)
      refine endR_mk (i + 1) ?_ ?_
      · exact ⟨by omega, by rw [chkA, if_pos hz]; omega, hX2⟩
      · first | omega | (dsimp only; omega)
  · replace hc10 : ¬ (i < 4) := by have := of_d_f hc10; omega
    refine wpF_end (then_code (wpC_seq (wpC_false (wpC_exit (then_exit (then_exit (inBlock_exit (then_code (wpC_seq ?_)))))))))
    refine wpC_region (wpF_run 1 [(4, (vI 0))] (wpF_end (then_code (wpC_ret (body_rets (vI 0) ?_)))))
    obtain rfl : i = 4 := by omega
    exact ⟨congrArg (fun z : Nat => vI z) (hz.symm), hEl⟩

theorem c_NCheck (x : Nod)  (w : World)  :
    Calls Tryd.prog 42 #[(vA (nodC x))] w (Ret fun r w' => r = (vI (chkN x)) ∧ Ext w w') := by
  refine calls_of (n := 32) (σ := [(0, (vA (nodC x)))]) Tryd.func42 rfl ?_
  refine wpC_seq (wpC_region (wpF_step (op_new (some 1) (Instr.box 78 (vA (nodC x))) (vP w.heap.size 0) (nodC x) 78 ?_)))
  intro w1 hBw1 hEw1
  have hzw1 := hEw1.size; have hlw1 := hBw1.lt
  refine wpF_run 1 [(2, (vI 0))] (wpF_end (then_code (wpC_seq (wpC_block (wpC_seq (wpC_region (wpF_run 1 [(4, (vP w.heap.size 0))] (wpF_step (op_v (some 5) (Instr.loadAt 5 (vP w.heap.size 0)) (vB x.lv) (rn_ld (hBw1.cell rfl)) ?_)))))))))
  refine wpF_step (op_split (some 6) (decide (((x.lv : Nat) : Int) > ((5 : Nat) : Int))) (fun hc6 => ?_) (fun hc6 => ?_))
  · replace hc6 : x.lv > 5 := by have := of_d_t hc6; omega
    refine wpF_run 1 [(3, vT)] (wpF_end (then_code (wpC_true (wpC_seq (wpC_region (wpF_run 1 [(2, (vI 1))] (wpF_end (then_code (wpC_ret ?_)))))))))
    exact inBlock_ret (then_ret (body_rets (vI 1) (⟨congrArg (fun z : Nat => vI z) (by unfold chkN; (repeat' split) <;> first | rfl | omega | simp_all), hEw1⟩)))
  · replace hc6 : ¬ (x.lv > 5) := by have := of_d_f hc6; omega
    refine wpF_run 1 [(3, vF)] (wpF_end (then_code (wpC_false (wpC_seq (wpC_region (wpF_run 1 [(8, (vP w.heap.size 0))] (wpF_step (op_v (some 9) (Instr.loadAt 5 (vP w.heap.size 0)) (vB x.lv) (rn_ld (hBw1.cell rfl)) ?_))))))))
    refine wpF_step (op_split (some 10) ((((x.lv : Nat) : Int) == ((0 : Nat) : Int))) (fun hc10 => ?_) (fun hc10 => ?_))
    · replace hc10 : x.lv = 0 := by have := of_eq_t hc10; omega
      refine wpF_run 2 [(12, (vP w.heap.size 142)), (11, vT)] (wpF_step (op_v (some 13) (Instr.loadAt 76 (vP w.heap.size 142)) (vA (e4C x.es)) (rn_lda (vs := e4C x.es) (hBw1.at 142 (e4C x.es) (nod_es _)) (by rw [e4C_len]; kernel_rfl)) ?_))
      refine wpF_run 1 [(14, (vA (e4C E4.zero)))] ?_
      rcases Bool.eq_false_or_eq_true (x.es.eqb E4.zero) with hq15 | hq15
      · refine wpF_step (op_v (some 15) (bo .neq 76 (.tmp 13) (.tmp 14) (vA (e4C x.es)) (vA (e4C E4.zero))) vF (run_neqAgg (r := true) (T := 76) ((run_eq_e4 (dd := 9996) (T := 76) (t := 75) (t8 := 5) (td := 27) (e := 5) x.es E4.zero).trans (congrArg (fun b => Result.ok b _) (show (x.es.eqb E4.zero) = true from hq15)))) ?_)
        refine wpF_run 2 [(7, vF), (16, vF)] (wpF_end (then_code (wpC_false (wpC_seq (wpC_region (wpF_run 1 [(18, (vP w.heap.size 0))] (wpF_step (op_v (some 19) (Instr.loadAt 5 (vP w.heap.size 0)) (vB x.lv) (rn_ld (hBw1.cell rfl)) ?_))))))))
        refine wpF_step (op_b (some 20) (((x.lv : Nat) : Int) == ((0 : Nat) : Int)) true (cmpEqT (by omega)) ?_)
        refine wpF_run 1 [(17, vT)] (wpF_end (then_code (wpC_true (wpC_seq (wpC_region (wpF_run 1 [(21, (vP w.heap.size 2))] (wpF_step (op_v (some 22) (Instr.loadAt 73 (vP w.heap.size 2)) (vA (r4C x.rs)) (rn_lda (vs := r4C x.rs) (hBw1.at 2 (r4C x.rs) (nod_rs _)) (by rw [r4C_len]; kernel_rfl)) ?_))))))))
        refine wpF_step (op_call (some 23) (c_eachR x.rs _) ?_)
        rintro _ w2 ⟨rfl, hEw2⟩
        have hzw2 := hEw2.size
        exact wpF_run 1 [(2, (vI (chkRs x.rs)))] (wpF_end (then_code (wpC_ret (inBlock_ret (then_ret (body_rets (vI (chkRs x.rs)) (⟨congrArg (fun z : Nat => vI z) (by unfold chkN; (repeat' split) <;> first | rfl | omega | simp_all), (hEw1.trans hEw2)⟩)))))))
      · refine wpF_step (op_v (some 15) (bo .neq 76 (.tmp 13) (.tmp 14) (vA (e4C x.es)) (vA (e4C E4.zero))) vT (run_neqAgg (r := false) (T := 76) ((run_eq_e4 (dd := 9996) (T := 76) (t := 75) (t8 := 5) (td := 27) (e := 5) x.es E4.zero).trans (congrArg (fun b => Result.ok b _) (show (x.es.eqb E4.zero) = false from hq15)))) ?_)
        refine wpF_run 2 [(7, vT), (16, vT)] (wpF_end (then_code (wpC_true (wpC_seq (wpC_region (wpF_run 1 [(2, (vI 1))] (wpF_end (then_code (wpC_ret ?_)))))))))
        exact inBlock_ret (then_ret (body_rets (vI 1) (⟨congrArg (fun z : Nat => vI z) (by unfold chkN; (repeat' split) <;> first | rfl | omega | simp_all), hEw1⟩)))
    · replace hc10 : ¬ (x.lv = 0) := by have := of_eq_f hc10; omega
      refine wpF_run 7 [(7, vF), (16, vF), (15, undef), (14, undef), (13, undef), (12, undef), (11, vF)] (wpF_end (then_code (wpC_false (wpC_seq (wpC_region (wpF_run 1 [(18, (vP w.heap.size 0))] (wpF_step (op_v (some 19) (Instr.loadAt 5 (vP w.heap.size 0)) (vB x.lv) (rn_ld (hBw1.cell rfl)) ?_))))))))
      refine wpF_step (op_b (some 20) (((x.lv : Nat) : Int) == ((0 : Nat) : Int)) false (cmpEqF (by omega)) ?_)
      refine wpF_run 1 [(17, vF)] (wpF_end (then_code (wpC_false (wpC_seq (wpC_region (wpF_run 1 [(25, (vP w.heap.size 2))] (wpF_step (op_v (some 26) (Instr.loadAt 73 (vP w.heap.size 2)) (vA (r4C x.rs)) (rn_lda (vs := r4C x.rs) (hBw1.at 2 (r4C x.rs) (nod_rs _)) (by rw [r4C_len]; kernel_rfl)) ?_))))))))
      refine wpF_run 1 [(27, (vA (r4C R4.zero)))] ?_
      rcases Bool.eq_false_or_eq_true (x.rs.eqb R4.zero) with hq28 | hq28
      · refine wpF_step (op_v (some 28) (bo .neq 73 (.tmp 26) (.tmp 27) (vA (r4C x.rs)) (vA (r4C R4.zero))) vF (run_neqAgg (r := true) (T := 73) ((run_eq_r4 (dd := 9996) (T := 73) (t := 72) (t8 := 5) (td := 27) (e := 5) (tn := 70) (t32 := 68) (t64 := 28) x.rs R4.zero).trans (congrArg (fun b => Result.ok b _) (show (x.rs.eqb R4.zero) = true from hq28)))) ?_)
        refine wpF_run 1 [(24, vF)] (wpF_end (then_code (wpC_false (wpC_skip (inBlock_normal (then_code (wpC_seq (wpC_region (wpF_run 1 [(29, (vP w.heap.size 142))] ?_)))))))))
        refine wpF_step (op_v (some 30) (Instr.loadAt 76 (vP w.heap.size 142)) (vA (e4C x.es)) (rn_lda (vs := e4C x.es) (hBw1.at 142 (e4C x.es) (nod_es _)) (by rw [e4C_len]; kernel_rfl)) ?_)
        refine wpF_step (op_call (some 31) (c_eachE x.es _) ?_)
        rintro _ w3 ⟨rfl, hEw3⟩
        have hzw3 := hEw3.size
        exact wpF_run 1 [(2, (vI (chkEs x.es)))] (wpF_end (then_code (wpC_ret (body_rets (vI (chkEs x.es)) (⟨congrArg (fun z : Nat => vI z) (by unfold chkN; (repeat' split) <;> first | rfl | omega | simp_all), (hEw1.trans hEw3)⟩)))))
      · refine wpF_step (op_v (some 28) (bo .neq 73 (.tmp 26) (.tmp 27) (vA (r4C x.rs)) (vA (r4C R4.zero))) vT (run_neqAgg (r := false) (T := 73) ((run_eq_r4 (dd := 9996) (T := 73) (t := 72) (t8 := 5) (td := 27) (e := 5) (tn := 70) (t32 := 68) (t64 := 28) x.rs R4.zero).trans (congrArg (fun b => Result.ok b _) (show (x.rs.eqb R4.zero) = false from hq28)))) ?_)
        refine wpF_run 1 [(24, vT)] (wpF_end (then_code (wpC_true (wpC_seq (wpC_region (wpF_run 1 [(2, (vI 1))] (wpF_end (then_code (wpC_ret ?_)))))))))
        exact inBlock_ret (then_ret (body_rets (vI 1) (⟨congrArg (fun z : Nat => vI z) (by unfold chkN; (repeat' split) <;> first | rfl | omega | simp_all), hEw1⟩)))

end Go.Proofs.YthjplefmfjkhfaaDoor
