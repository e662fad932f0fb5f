/- CsN1: what each function does, by its own code. No condition beyond those of each statement. -/
import Derived.Test.YtpcbhalagllhnaaDoorCsS6
import Derived.Test.YtpcbhalagllhnaaDoorCsR3
import Derived.Test.YtpcbhalagllhnaaDoorCsNod
namespace Go.Proofs.YtpcbhalagllhnaaDoor
open Go Go.RowKit Go.Cs
set_option maxRecDepth 100000
set_option linter.all false
set_option linter.unusedVariables false

theorem c_kind (v : Nat)  (w : World)  :
    Calls Tryd.prog 31 #[(vB v)] w (Ret fun r w' => r = (vI (min v 1)) ∧ w = w') := by
  refine calls_of (n := 6) (σ := [(0, (vB v))]) Tryd.func31 rfl ?_
  refine wpC_seq (wpC_region (wpF_run 1 [(2, (vI 0))] (wpF_end (then_code (wpC_seq (wpC_region (wpF_run 1 [(3, (vB v))] (wpF_step (op_eqv (some 4) (.int .u8 (if ((1 : Nat) : Int) < ((v : Nat) : Int) then ((1 : Nat) : Int) else ((v : Nat) : Int))) (vB (min v 1)) (congrArg _ (minN _ _)) ?_)))))))))
  refine wpF_step (op_in (some 5) .i64 (IntKind.i64.wrap ((min v 1 : Nat) : Int)) (min v 1) (wrapS rfl (by omega) (by omega)) ?_)
  exact wpF_run 1 [(2, (vI (min v 1)))] (wpF_end (then_code (wpC_ret (body_rets (vI (min v 1)) (⟨rfl, rfl⟩)))))

theorem c_eachR (x : R4)  (w : World)  :
    Calls Tryd.prog 34 #[(vA (r4C x)), (.func (.func 40) #[] #[])] w (Ret fun r w' => r = (vI (chkRs x)) ∧ Ext w w') := by
  refine calls_of (n := 19) (σ := [(0, (vA (r4C x))), (1, (.func (.func 40) #[] #[]))]) Tryd.func34 rfl ?_
  refine wpC_seq (wpC_region (wpF_step (op_new (some 2) (Instr.box 36 (vA (r4C x))) (vP w.heap.size 0) (r4C x) 36 ?_)))
  intro w1 hBw1 hEw1
  have hzw1 := hEw1.size; have hlw1 := hBw1.lt
  refine wpF_run 1 [(4, (vI 0))] (wpF_end (then_code (wpC_seq (wpC_seq (wpC_region (wpF_step (op_v (some 8) (Instr.loadAt 36 (vP w.heap.size 0)) (vA (r4C x)) (rn_lda (vs := r4C x) (hBw1.all) (by rw [r4C_len]; kernel_rfl)) ?_)))))))
  refine wpF_run 1 [(9, (vI 0))] (wpF_end (then_code (wpC_block (wpC_loop (X := Nat) (fun i => [(9, (vI i))]) [4, 6, 7, 10, 11, 12, 13, 14, 15, 16, 17, 18] (fun i w2 => i ≤ 4 ∧ chkA chkR x.get i = 0 ∧ Ext w w2) (fun i => 4 - i) 0 (by kernel_rfl) ⟨by omega, rfl, hEw1⟩ ?_))))
  rintro i dw2 w2 ⟨hi, hz, hEl⟩
  have hzl := hEl.size
  refine wpC_seq (wpC_region (wpF_step (op_split (some 10) (decide (((i : Nat) : Int) < ((4 : Nat) : Int))) (fun hc10 => ?_) (fun hc10 => ?_))))
  · replace hc10 : i < 4 := by have := of_d_t hc10; omega
    refine wpF_end (then_code (wpC_seq (wpC_true (wpC_skip (then_code (wpC_seq (wpC_block (wpC_seq (wpC_region ?_)))))))))
    refine wpF_step (op_v (some 11) (Instr.index 36 (vA (r4C x)) (vI i)) (vA (recC (x.get i))) (rn_idx (E := 35) (m := 4) (sz := 35) (us := recC (x.get i)) (by omega) (r4_at (by omega))) ?_)
    refine wpF_step (op_new (some 6) (Instr.alloc 35 true (.tuple #[])) (vP w2.heap.size 0) (recC Rec.zero) 35 ?_)
    intro w3 hBw3 hEw3
    have hzw3 := hEw3.size; have hlw3 := hBw3.lt
    refine wpF_step (op_store 35 w2.heap.size 0 35 (vA (recC (x.get i))) (recC Rec.zero) (recC (x.get i)) hBw3 (by rw [recC_len]; kernel_rfl) (by simp) (recC_one _) ?_)
    intro w4 hBw4 hCw4
    have hzw4 := hCw4.size
    rw [setFrom_all _ _ (by simp)] at hBw4
    refine wpF_end (then_code (wpC_seq (wpC_region (wpF_run 1 [(12, (.func (.func 40) #[] #[]))] (wpF_step (op_v (some 13) (Instr.loadAt 35 (vP w2.heap.size 0)) (vA (recC (x.get i))) (rn_lda (vs := recC (x.get i)) (hBw4.all) (by rw [recC_len]; kernel_rfl)) ?_))))))
    refine wpF_step (op_call (some 14) (c_CheckRecord (x.get i) _) ?_)
    rintro _ w5 ⟨rfl, hEw5⟩
    have hzw5 := hEw5.size
    refine wpF_run 1 [(7, (vI (chkR (x.get i))))] (wpF_end (then_code (wpC_seq (wpC_region (wpF_run 1 [(15, (vI (chkR (x.get i))))] (wpF_step (op_split (some 16) ((((chkR (x.get i) : Nat) : Int) != ((0 : Nat) : Int))) (fun hc16 => ?_) (fun hc16 => ?_))))))))
    · replace hc16 : ¬ (chkR (x.get i) = 0) := by have := of_ne_t hc16; omega
      refine wpF_end (then_code (wpC_true (wpC_seq (wpC_region (wpF_run 2 [(4, (vI (chkR (x.get i)))), (17, (vI (chkR (x.get i))))] (wpF_end (then_code (wpC_ret (inBlock_ret ?_)))))))))
      refine then_ret (then_ret (inBlock_ret (then_ret (body_rets (vI (chkR (x.get i))) ?_))))
      have hX1 : Ext w w5 := ((Ext.own (hEl.trans hEw3) hCw4 (by omega)).trans hEw5)
      exact ⟨congrArg (fun z : Nat => vI z) (chkRs_stop (by omega) (by omega)), hX1⟩
    · replace hc16 : chkR (x.get i) = 0 := by have := of_ne_f hc16; omega
      refine wpF_end (then_code (wpC_false (wpC_skip (inBlock_normal (then_code (wpC_region (wpF_step (op_in (some 18) .i64 (IntKind.i64.wrap (((i : Nat) : Int) + ((1 : Nat) : Int))) (i + 1) (wrapS (by omega) (by omega) (by omega)) ?_))))))))
      refine wpF_run 1 [(9, (vI (i + 1)))] (wpF_end (then_normal ?_))
      have hX2 : Ext w w5 := ((Ext.own (hEl.trans hEw3) hCw4 (by omega)).trans hEw5)
      refine endR_mk (i + 1) ?_ ?_
      · exact ⟨by omega, by rw [chkA, if_pos hz]; omega, hX2⟩
      · first | omega | (dsimp only; omega)
  · replace hc10 : ¬ (i < 4) := by have := of_d_f hc10; omega
    refine wpF_end (then_code (wpC_seq (wpC_false (wpC_exit (then_exit (then_exit (inBlock_exit (then_code (wpC_seq ?_)))))))))
    refine wpC_region (wpF_run 1 [(4, (vI 0))] (wpF_end (then_code (wpC_ret (body_rets (vI 0) ?_)))))
    obtain rfl : i = 4 := by omega
    exact ⟨congrArg (fun z : Nat => vI z) (hz.symm), hEl⟩

theorem c_eachE (x : E4)  (w : World)  :
    Calls Tryd.prog 37 #[(vA (e4C x)), (.func (.func 41) #[] #[])] w (Ret fun r w' => r = (vI (chkEs x)) ∧ Ext w w') := by
  refine calls_of (n := 19) (σ := [(0, (vA (e4C x))), (1, (.func (.func 41) #[] #[]))]) Tryd.func37 rfl ?_
  refine wpC_seq (wpC_region (wpF_step (op_new (some 2) (Instr.box 39 (vA (e4C x))) (vP w.heap.size 0) (e4C x) 39 ?_)))
  intro w1 hBw1 hEw1
  have hzw1 := hEw1.size; have hlw1 := hBw1.lt
  refine wpF_run 1 [(4, (vI 0))] (wpF_end (then_code (wpC_seq (wpC_seq (wpC_region (wpF_step (op_v (some 8) (Instr.loadAt 39 (vP w.heap.size 0)) (vA (e4C x)) (rn_lda (vs := e4C x) (hBw1.all) (by rw [e4C_len]; kernel_rfl)) ?_)))))))
  refine wpF_run 1 [(9, (vI 0))] (wpF_end (then_code (wpC_block (wpC_loop (X := Nat) (fun i => [(9, (vI i))]) [4, 6, 7, 10, 11, 12, 13, 14, 15, 16, 17, 18] (fun i w2 => i ≤ 4 ∧ chkA chkE x.get i = 0 ∧ Ext w w2) (fun i => 4 - i) 0 (by kernel_rfl) ⟨by omega, rfl, hEw1⟩ ?_))))
  rintro i dw2 w2 ⟨hi, hz, hEl⟩
  have hzl := hEl.size
  refine wpC_seq (wpC_region (wpF_step (op_split (some 10) (decide (((i : Nat) : Int) < ((4 : Nat) : Int))) (fun hc10 => ?_) (fun hc10 => ?_))))
  · replace hc10 : i < 4 := by have := of_d_t hc10; omega
    refine wpF_end (then_code (wpC_seq (wpC_true (wpC_skip (then_code (wpC_seq (wpC_block (wpC_seq (wpC_region ?_)))))))))
    refine wpF_step (op_v (some 11) (Instr.index 39 (vA (e4C x)) (vI i)) (vA (entC (x.get i))) (rn_idx (E := 38) (m := 4) (sz := 33) (us := entC (x.get i)) (by omega) (e4_at (by omega))) ?_)
    refine wpF_step (op_new (some 6) (Instr.alloc 38 true (.tuple #[])) (vP w2.heap.size 0) (entC Ent.zero) 38 ?_)
    intro w3 hBw3 hEw3
    have hzw3 := hEw3.size; have hlw3 := hBw3.lt
    refine wpF_step (op_store 38 w2.heap.size 0 38 (vA (entC (x.get i))) (entC Ent.zero) (entC (x.get i)) hBw3 (by rw [entC_len]; kernel_rfl) (by simp) (entC_one _) ?_)
    intro w4 hBw4 hCw4
    have hzw4 := hCw4.size
    rw [setFrom_all _ _ (by simp)] at hBw4
    refine wpF_end (then_code (wpC_seq (wpC_region (wpF_run 1 [(12, (.func (.func 41) #[] #[]))] (wpF_step (op_v (some 13) (Instr.loadAt 38 (vP w2.heap.size 0)) (vA (entC (x.get i))) (rn_lda (vs := entC (x.get i)) (hBw4.all) (by rw [entC_len]; kernel_rfl)) ?_))))))
    refine wpF_step (op_call (some 14) (c_CheckEntry (x.get i) _) ?_)
    rintro _ w5 ⟨rfl, hEw5⟩
    have hzw5 := hEw5.size
    refine wpF_run 1 [(7, (vI (chkE (x.get i))))] (wpF_end (then_code (wpC_seq (wpC_region (wpF_run 1 [(15, (vI (chkE (x.get i))))] (wpF_step (op_split (some 16) ((((chkE (x.get i) : Nat) : Int) != ((0 : Nat) : Int))) (fun hc16 => ?_) (fun hc16 => ?_))))))))
    · replace hc16 : ¬ (chkE (x.get i) = 0) := by have := of_ne_t hc16; omega
      refine wpF_end (then_code (wpC_true (wpC_seq (wpC_region (wpF_run 2 [(4, (vI (chkE (x.get i)))), (17, (vI (chkE (x.get i))))] (wpF_end (then_code (wpC_ret (inBlock_ret ?_)))))))))
      refine then_ret (then_ret (inBlock_ret (then_ret (body_rets (vI (chkE (x.get i))) ?_))))
      have hX1 : Ext w w5 := ((Ext.own (hEl.trans hEw3) hCw4 (by omega)).trans hEw5)
      exact ⟨congrArg (fun z : Nat => vI z) (chkEs_stop (by omega) (by omega)), hX1⟩
    · replace hc16 : chkE (x.get i) = 0 := by have := of_ne_f hc16; omega
      refine wpF_end (then_code (wpC_false (wpC_skip (inBlock_normal (then_code (wpC_region (wpF_step (op_in (some 18) .i64 (IntKind.i64.wrap (((i : Nat) : Int) + ((1 : Nat) : Int))) (i + 1) (wrapS (by omega) (by omega) (by omega)) ?_))))))))
      refine wpF_run 1 [(9, (vI (i + 1)))] (wpF_end (then_normal ?_))
      have hX2 : Ext w w5 := ((Ext.own (hEl.trans hEw3) hCw4 (by omega)).trans hEw5)
      refine endR_mk (i + 1) ?_ ?_
      · exact ⟨by omega, by rw [chkA, if_pos hz]; omega, hX2⟩
      · first | omega | (dsimp only; omega)
  · replace hc10 : ¬ (i < 4) := by have := of_d_f hc10; omega
    refine wpF_end (then_code (wpC_seq (wpC_false (wpC_exit (then_exit (then_exit (inBlock_exit (then_code (wpC_seq ?_)))))))))
    refine wpC_region (wpF_run 1 [(4, (vI 0))] (wpF_end (then_code (wpC_ret (body_rets (vI 0) ?_)))))
    obtain rfl : i = 4 := by omega
    exact ⟨congrArg (fun z : Nat => vI z) (hz.symm), hEl⟩

theorem c_NCheck (x : Nod)  (w : World)  :
    Calls Tryd.prog 11 #[(vA (nodC x))] w (Ret fun r w' => r = (vI (chkN x)) ∧ Ext w w') := by
  refine calls_of (n := 32) (σ := [(0, (vA (nodC x)))]) Tryd.func11 rfl ?_
  refine wpC_seq (wpC_region (wpF_step (op_new (some 1) (Instr.box 41 (vA (nodC x))) (vP w.heap.size 0) (nodC x) 41 ?_)))
  intro w1 hBw1 hEw1
  have hzw1 := hEw1.size; have hlw1 := hBw1.lt
  refine wpF_run 1 [(2, (vI 0))] (wpF_end (then_code (wpC_seq (wpC_block (wpC_seq (wpC_region (wpF_run 1 [(4, (vP w.heap.size 0))] (wpF_step (op_v (some 5) (Instr.loadAt 5 (vP w.heap.size 0)) (vB x.lv) (rn_ld (hBw1.cell rfl)) ?_)))))))))
  refine wpF_step (op_split (some 6) (decide (((x.lv : Nat) : Int) > ((5 : Nat) : Int))) (fun hc6 => ?_) (fun hc6 => ?_))
  · replace hc6 : x.lv > 5 := by have := of_d_t hc6; omega
    refine wpF_run 1 [(3, vT)] (wpF_end (then_code (wpC_true (wpC_seq (wpC_region (wpF_run 1 [(2, (vI 1))] (wpF_end (then_code (wpC_ret ?_)))))))))
    exact inBlock_ret (then_ret (body_rets (vI 1) (⟨congrArg (fun z : Nat => vI z) (by unfold chkN; (repeat' split) <;> first | rfl | omega | simp_all), hEw1⟩)))
  · replace hc6 : ¬ (x.lv > 5) := by have := of_d_f hc6; omega
    refine wpF_run 1 [(3, vF)] (wpF_end (then_code (wpC_false (wpC_seq (wpC_region (wpF_run 1 [(8, (vP w.heap.size 0))] (wpF_step (op_v (some 9) (Instr.loadAt 5 (vP w.heap.size 0)) (vB x.lv) (rn_ld (hBw1.cell rfl)) ?_))))))))
    refine wpF_step (op_split (some 10) ((((x.lv : Nat) : Int) == ((0 : Nat) : Int))) (fun hc10 => ?_) (fun hc10 => ?_))
    · replace hc10 : x.lv = 0 := by have := of_eq_t hc10; omega
      refine wpF_run 2 [(12, (vP w.heap.size 142)), (11, vT)] (wpF_step (op_v (some 13) (Instr.loadAt 39 (vP w.heap.size 142)) (vA (e4C x.es)) (rn_lda (vs := e4C x.es) (hBw1.at 142 (e4C x.es) (nod_es _)) (by rw [e4C_len]; kernel_rfl)) ?_))
      refine wpF_run 1 [(14, (vA (e4C E4.zero)))] ?_
      rcases Bool.eq_false_or_eq_true (x.es.eqb E4.zero) with hq15 | hq15
      · refine wpF_step (op_v (some 15) (bo .neq 39 (.tmp 13) (.tmp 14) (vA (e4C x.es)) (vA (e4C E4.zero))) vF (run_neqAgg (r := true) (T := 39) ((run_eq_e4 (dd := 9996) (T := 39) (t := 38) (t8 := 5) (td := 33) (e := 5) x.es E4.zero).trans (congrArg (fun b => Result.ok b _) (show (x.es.eqb E4.zero) = true from hq15)))) ?_)
        refine wpF_run 2 [(7, vF), (16, vF)] (wpF_end (then_code (wpC_false (wpC_seq (wpC_region (wpF_run 1 [(18, (vP w.heap.size 0))] (wpF_step (op_v (some 19) (Instr.loadAt 5 (vP w.heap.size 0)) (vB x.lv) (rn_ld (hBw1.cell rfl)) ?_))))))))
        refine wpF_step (op_b (some 20) (((x.lv : Nat) : Int) == ((0 : Nat) : Int)) true (cmpEqT (by omega)) ?_)
        refine wpF_run 1 [(17, vT)] (wpF_end (then_code (wpC_true (wpC_seq (wpC_region (wpF_run 1 [(21, (vP w.heap.size 2))] (wpF_step (op_v (some 22) (Instr.loadAt 36 (vP w.heap.size 2)) (vA (r4C x.rs)) (rn_lda (vs := r4C x.rs) (hBw1.at 2 (r4C x.rs) (nod_rs _)) (by rw [r4C_len]; kernel_rfl)) ?_))))))))
        refine wpF_step (op_call (some 23) (c_eachR x.rs _) ?_)
        rintro _ w2 ⟨rfl, hEw2⟩
        have hzw2 := hEw2.size
        exact wpF_run 1 [(2, (vI (chkRs x.rs)))] (wpF_end (then_code (wpC_ret (inBlock_ret (then_ret (body_rets (vI (chkRs x.rs)) (⟨congrArg (fun z : Nat => vI z) (by unfold chkN; (repeat' split) <;> first | rfl | omega | simp_all), (hEw1.trans hEw2)⟩)))))))
      · refine wpF_step (op_v (some 15) (bo .neq 39 (.tmp 13) (.tmp 14) (vA (e4C x.es)) (vA (e4C E4.zero))) vT (run_neqAgg (r := false) (T := 39) ((run_eq_e4 (dd := 9996) (T := 39) (t := 38) (t8 := 5) (td := 33) (e := 5) x.es E4.zero).trans (congrArg (fun b => Result.ok b _) (show (x.es.eqb E4.zero) = false from hq15)))) ?_)
        refine wpF_run 2 [(7, vT), (16, vT)] (wpF_end (then_code (wpC_true (wpC_seq (wpC_region (wpF_run 1 [(2, (vI 1))] (wpF_end (then_code (wpC_ret ?_)))))))))
        exact inBlock_ret (then_ret (body_rets (vI 1) (⟨congrArg (fun z : Nat => vI z) (by unfold chkN; (repeat' split) <;> first | rfl | omega | simp_all), hEw1⟩)))
    · replace hc10 : ¬ (x.lv = 0) := by have := of_eq_f hc10; omega
      refine wpF_run 7 [(7, vF), (16, vF), (15, undef), (14, undef), (13, undef), (12, undef), (11, vF)] (wpF_end (then_code (wpC_false (wpC_seq (wpC_region (wpF_run 1 [(18, (vP w.heap.size 0))] (wpF_step (op_v (some 19) (Instr.loadAt 5 (vP w.heap.size 0)) (vB x.lv) (rn_ld (hBw1.cell rfl)) ?_))))))))
      refine wpF_step (op_b (some 20) (((x.lv : Nat) : Int) == ((0 : Nat) : Int)) false (cmpEqF (by omega)) ?_)
      refine wpF_run 1 [(17, vF)] (wpF_end (then_code (wpC_false (wpC_seq (wpC_region (wpF_run 1 [(25, (vP w.heap.size 2))] (wpF_step (op_v (some 26) (Instr.loadAt 36 (vP w.heap.size 2)) (vA (r4C x.rs)) (rn_lda (vs := r4C x.rs) (hBw1.at 2 (r4C x.rs) (nod_rs _)) (by rw [r4C_len]; kernel_rfl)) ?_))))))))
      refine wpF_run 1 [(27, (vA (r4C R4.zero)))] ?_
      rcases Bool.eq_false_or_eq_true (x.rs.eqb R4.zero) with hq28 | hq28
      · refine wpF_step (op_v (some 28) (bo .neq 36 (.tmp 26) (.tmp 27) (vA (r4C x.rs)) (vA (r4C R4.zero))) vF (run_neqAgg (r := true) (T := 36) ((run_eq_r4 (dd := 9996) (T := 36) (t := 35) (t8 := 5) (td := 33) (e := 5) (tn := 31) (t32 := 28) (t64 := 29) x.rs R4.zero).trans (congrArg (fun b => Result.ok b _) (show (x.rs.eqb R4.zero) = true from hq28)))) ?_)
        refine wpF_run 1 [(24, vF)] (wpF_end (then_code (wpC_false (wpC_skip (inBlock_normal (then_code (wpC_seq (wpC_region (wpF_run 1 [(29, (vP w.heap.size 142))] ?_)))))))))
        refine wpF_step (op_v (some 30) (Instr.loadAt 39 (vP w.heap.size 142)) (vA (e4C x.es)) (rn_lda (vs := e4C x.es) (hBw1.at 142 (e4C x.es) (nod_es _)) (by rw [e4C_len]; kernel_rfl)) ?_)
        refine wpF_step (op_call (some 31) (c_eachE x.es _) ?_)
        rintro _ w3 ⟨rfl, hEw3⟩
        have hzw3 := hEw3.size
        exact wpF_run 1 [(2, (vI (chkEs x.es)))] (wpF_end (then_code (wpC_ret (body_rets (vI (chkEs x.es)) (⟨congrArg (fun z : Nat => vI z) (by unfold chkN; (repeat' split) <;> first | rfl | omega | simp_all), (hEw1.trans hEw3)⟩)))))
      · refine wpF_step (op_v (some 28) (bo .neq 36 (.tmp 26) (.tmp 27) (vA (r4C x.rs)) (vA (r4C R4.zero))) vT (run_neqAgg (r := false) (T := 36) ((run_eq_r4 (dd := 9996) (T := 36) (t := 35) (t8 := 5) (td := 33) (e := 5) (tn := 31) (t32 := 28) (t64 := 29) x.rs R4.zero).trans (congrArg (fun b => Result.ok b _) (show (x.rs.eqb R4.zero) = false from hq28)))) ?_)
        refine wpF_run 1 [(24, vT)] (wpF_end (then_code (wpC_true (wpC_seq (wpC_region (wpF_run 1 [(2, (vI 1))] (wpF_end (then_code (wpC_ret ?_)))))))))
        exact inBlock_ret (then_ret (body_rets (vI 1) (⟨congrArg (fun z : Nat => vI z) (by unfold chkN; (repeat' split) <;> first | rfl | omega | simp_all), hEw1⟩)))

theorem c_rNCheck (x : Nod)  (w : World)  :
    Calls Tryd.prog 16 #[(vA (nodC x))] w (Ret fun r w' => r = (vI (chkN x)) ∧ Ext w w') := by
  refine calls_of (n := 57) (σ := [(0, (vA (nodC x)))]) Tryd.func16 rfl ?_
  refine wpC_seq (wpC_region (wpF_step (op_new (some 1) (Instr.box 41 (vA (nodC x))) (vP w.heap.size 0) (nodC x) 41 ?_)))
  intro w1 hBw1 hEw1
  have hzw1 := hEw1.size; have hlw1 := hBw1.lt
  refine wpF_run 1 [(2, (vI 0))] (wpF_end (then_code (wpC_seq (wpC_seq (wpC_region (wpF_run 1 [(6, (vP w.heap.size 0))] (wpF_step (op_v (some 7) (Instr.loadAt 5 (vP w.heap.size 0)) (vB x.lv) (rn_ld (hBw1.cell rfl)) ?_))))))))
  refine wpF_step (op_split (some 8) (decide (((x.lv : Nat) : Int) > ((5 : Nat) : Int))) (fun hc8 => ?_) (fun hc8 => ?_))
  · replace hc8 : x.lv > 5 := by have := of_d_t hc8; omega
    refine wpF_end (then_code (wpC_true (wpC_seq (wpC_region (wpF_run 1 [(2, (vI 1))] (wpF_end (then_code (wpC_ret (then_ret ?_)))))))))
    exact body_rets (vI 1) (⟨congrArg (fun z : Nat => vI z) ((by unfold chkN; rw [if_pos (by omega)])), hEw1⟩)
  · replace hc8 : ¬ (x.lv > 5) := by have := of_d_f hc8; omega
    refine wpF_end (then_code (wpC_false (wpC_skip (then_code (wpC_seq (wpC_seq (wpC_region (wpF_run 1 [(3, (vI 0))] (wpF_end ?_)))))))))
    refine then_code (wpC_block (wpC_loop (X := Nat) (fun i => [(3, (vI i))]) [2, 9, 10, 11, 12, 13, 14, 15, 16, 17, 18, 19, 20, 21, 22, 23, 24, 25, 26, 27, 28, 29, 30, 31, 32, 33, 34, 35, 36] (fun i w2 => i ≤ 4 ∧ Zs x i ∧ Ext w1 w2) (fun i => 4 - i) 0 (by kernel_rfl) ⟨by omega, Zs.zero x, (Ext.refl _)⟩ ?_))
    rintro i dw2 w2 ⟨hi, hz, hEl⟩
    have hzl := hEl.size
    refine wpC_seq (wpC_seq (wpC_region (wpF_run 1 [(9, (vI i))] (wpF_step (op_split (some 10) (decide (((i : Nat) : Int) < ((4 : Nat) : Int))) (fun hc10 => ?_) (fun hc10 => ?_))))))
    · replace hc10 : i < 4 := by have := of_d_t hc10; omega
      refine wpF_end (then_code (wpC_true (wpC_skip (then_code (wpC_seq (wpC_block (wpC_seq (wpC_region (wpF_run 1 [(13, (vP w.heap.size 0))] ?_)))))))))
      refine wpF_step (op_v (some 14) (Instr.loadAt 5 (vP w.heap.size 0)) (vB x.lv) (rn_ld ((hBw1.ext hEl).cell rfl)) ?_)
      refine wpF_step (op_split (some 15) ((((x.lv : Nat) : Int) == ((0 : Nat) : Int))) (fun hc15 => ?_) (fun hc15 => ?_))
      · replace hc15 : x.lv = 0 := by have := of_eq_t hc15; omega
        refine wpF_run 3 [(18, (vP w.heap.size 142)), (17, (vI i)), (16, vT)] (wpF_step (op_v (some 19) (Instr.indexAt 39 (vP w.heap.size 142) (vI i)) (vP w.heap.size (142 + i * 33)) (rn_ixa (E := 38) (sz := 33) (m := 4) (by omega)) ?_))
        refine wpF_step (op_v (some 20) (Instr.loadAt 38 (vP w.heap.size (142 + i * 33))) (vA (entC (x.es.get i))) (rn_lda (vs := entC (x.es.get i)) ((hBw1.ext hEl).at (142 + i * 33) (entC (x.es.get i)) (nod_e (by omega))) (by rw [entC_len]; kernel_rfl)) ?_)
        refine wpF_run 1 [(21, (vA (entC Ent.zero)))] ?_
        rcases Bool.eq_false_or_eq_true ((x.es.get i).eqb Ent.zero) with hq22 | hq22
        · refine wpF_step (op_v (some 22) (bo .neq 38 (.tmp 20) (.tmp 21) (vA (entC (x.es.get i))) (vA (entC Ent.zero))) vF (run_neqAgg (r := true) (T := 38) ((run_eq_ent (dd := 9997) (t := 38) (t8 := 5) (td := 33) (e := 5) (x.es.get i) Ent.zero).trans (congrArg (fun b => Result.ok b _) (show ((x.es.get i).eqb Ent.zero) = true from hq22)))) ?_)
          refine wpF_run 3 [(25, (vP w.heap.size 0)), (24, vF), (23, vF)] (wpF_step (op_v (some 26) (Instr.loadAt 5 (vP w.heap.size 0)) (vB x.lv) (rn_ld ((hBw1.ext hEl).cell rfl)) ?_))
          refine wpF_step (op_b (some 27) (decide (((x.lv : Nat) : Int) > ((0 : Nat) : Int))) false (cmpDF (by omega)) ?_)
          refine wpF_run 9 [(36, vF), (35, vF), (34, undef), (33, undef), (32, undef), (31, undef), (30, undef), (29, undef), (28, vF)] (wpF_end (then_code (wpC_false (wpC_skip (inBlock_normal (then_code (wpC_region (wpF_run 1 [(11, (vI i))] (wpF_step (op_in (some 12) .i64 (IntKind.i64.wrap (((i : Nat) : Int) + ((1 : Nat) : Int))) (i + 1) (wrapS (by omega) (by omega) (by omega)) ?_))))))))))
          refine wpF_run 1 [(3, (vI (i + 1)))] (wpF_end (then_normal (endR_mk (i + 1) ?_ ?_)))
          · exact ⟨by omega, hz.stepE (by omega) hq22, hEl⟩
          · first | omega | (dsimp only; omega)
        · refine wpF_step (op_v (some 22) (bo .neq 38 (.tmp 20) (.tmp 21) (vA (entC (x.es.get i))) (vA (entC Ent.zero))) vT (run_neqAgg (r := false) (T := 38) ((run_eq_ent (dd := 9997) (t := 38) (t8 := 5) (td := 33) (e := 5) (x.es.get i) Ent.zero).trans (congrArg (fun b => Result.ok b _) (show ((x.es.get i).eqb Ent.zero) = false from hq22)))) ?_)
          refine wpF_run 14 [(36, vT), (35, undef), (34, undef), (33, undef), (32, undef), (31, undef), (30, undef), (29, undef), (28, undef), (27, undef), (26, undef), (25, undef), (24, vT), (23, vT)] (wpF_end (then_code (wpC_true (wpC_seq (wpC_region (wpF_run 1 [(2, (vI 1))] (wpF_end (then_code (wpC_ret ?_)))))))))
          exact inBlock_ret (then_ret (then_ret (inBlock_ret (then_ret (body_rets (vI 1) (⟨congrArg (fun z : Nat => vI z) (chkN_badE (by omega) (by omega) hq22 |>.symm), (hEw1.trans hEl)⟩))))))
      · replace hc15 : ¬ (x.lv = 0) := by have := of_eq_f hc15; omega
        refine wpF_run 10 [(25, (vP w.heap.size 0)), (24, vF), (23, vF), (22, undef), (21, undef), (20, undef), (19, undef), (18, undef), (17, undef), (16, vF)] (wpF_step (op_v (some 26) (Instr.loadAt 5 (vP w.heap.size 0)) (vB x.lv) (rn_ld ((hBw1.ext hEl).cell rfl)) ?_))
        refine wpF_step (op_b (some 27) (decide (((x.lv : Nat) : Int) > ((0 : Nat) : Int))) true (cmpDT (by omega)) ?_)
        refine wpF_run 3 [(30, (vP w.heap.size 2)), (29, (vI i)), (28, vT)] (wpF_step (op_v (some 31) (Instr.indexAt 36 (vP w.heap.size 2) (vI i)) (vP w.heap.size (2 + i * 35)) (rn_ixa (E := 35) (sz := 35) (m := 4) (by omega)) ?_))
        refine wpF_step (op_v (some 32) (Instr.loadAt 35 (vP w.heap.size (2 + i * 35))) (vA (recC (x.rs.get i))) (rn_lda (vs := recC (x.rs.get i)) ((hBw1.ext hEl).at (2 + i * 35) (recC (x.rs.get i)) (nod_r (by omega))) (by rw [recC_len]; kernel_rfl)) ?_)
        refine wpF_run 1 [(33, (vA (recC Rec.zero)))] ?_
        rcases Bool.eq_false_or_eq_true ((x.rs.get i).eqb Rec.zero) with hq34 | hq34
        · refine wpF_step (op_v (some 34) (bo .neq 35 (.tmp 32) (.tmp 33) (vA (recC (x.rs.get i))) (vA (recC Rec.zero))) vF (run_neqAgg (r := true) (T := 35) ((run_eq_rec (dd := 9997) (t := 35) (t8 := 5) (tn := 31) (td := 33) (e := 5) (t32 := 28) (t64 := 29) (x.rs.get i) Rec.zero).trans (congrArg (fun b => Result.ok b _) (show ((x.rs.get i).eqb Rec.zero) = true from hq34)))) ?_)
          refine wpF_run 2 [(36, vF), (35, vF)] (wpF_end (then_code (wpC_false (wpC_skip (inBlock_normal (then_code (wpC_region (wpF_run 1 [(11, (vI i))] (wpF_step (op_in (some 12) .i64 (IntKind.i64.wrap (((i : Nat) : Int) + ((1 : Nat) : Int))) (i + 1) (wrapS (by omega) (by omega) (by omega)) ?_))))))))))
          refine wpF_run 1 [(3, (vI (i + 1)))] (wpF_end (then_normal (endR_mk (i + 1) ?_ ?_)))
          · exact ⟨by omega, hz.stepR (by omega) hq34, hEl⟩
          · first | omega | (dsimp only; omega)
        · refine wpF_step (op_v (some 34) (bo .neq 35 (.tmp 32) (.tmp 33) (vA (recC (x.rs.get i))) (vA (recC Rec.zero))) vT (run_neqAgg (r := false) (T := 35) ((run_eq_rec (dd := 9997) (t := 35) (t8 := 5) (tn := 31) (td := 33) (e := 5) (t32 := 28) (t64 := 29) (x.rs.get i) Rec.zero).trans (congrArg (fun b => Result.ok b _) (show ((x.rs.get i).eqb Rec.zero) = false from hq34)))) ?_)
          refine wpF_run 2 [(36, vT), (35, vT)] (wpF_end (then_code (wpC_true (wpC_seq (wpC_region (wpF_run 1 [(2, (vI 1))] (wpF_end (then_code (wpC_ret ?_)))))))))
          exact inBlock_ret (then_ret (then_ret (inBlock_ret (then_ret (body_rets (vI 1) (⟨congrArg (fun z : Nat => vI z) (chkN_badR (by omega) (by omega) hq34 |>.symm), (hEw1.trans hEl)⟩))))))
    · replace hc10 : ¬ (i < 4) := by have := of_d_f hc10; omega
      refine wpF_end (then_code (wpC_false (wpC_exit (then_exit (then_exit (inBlock_exit (then_code (wpC_seq (wpC_seq ?_)))))))))
      refine wpC_region (wpF_run 1 [(4, (vI 0))] (wpF_end (then_code (wpC_block ?_))))
      obtain rfl : i = 4 := by omega
      refine wpC_loop (X := Nat) (fun j => [(4, (vI j))]) [2, 5, 37, 38, 39, 40, 41, 42, 43, 44, 45, 46, 47, 48, 49, 50, 51, 52, 53, 54, 55, 56] (fun j w3 => j ≤ 4 ∧ ckA x j = 0 ∧ Ext w1 w3) (fun j => 4 - j) 0 (by kernel_rfl) ⟨by omega, ckA_zero x, hEl⟩ ?_
      rintro j dw3 w3 ⟨hj, hck, hEm⟩
      have hzm := hEm.size
      refine wpC_seq (wpC_seq (wpC_region (wpF_run 1 [(37, (vI j))] (wpF_step (op_split (some 38) (decide (((j : Nat) : Int) < ((4 : Nat) : Int))) (fun hc38 => ?_) (fun hc38 => ?_))))))
      · replace hc38 : j < 4 := by have := of_d_t hc38; omega
        refine wpF_end (then_code (wpC_true (wpC_skip (then_code (wpC_seq (wpC_block (wpC_seq (wpC_region (wpF_run 2 [(42, (vP w.heap.size 2)), (41, (vI j))] ?_)))))))))
        refine wpF_step (op_v (some 43) (Instr.indexAt 36 (vP w.heap.size 2) (vI j)) (vP w.heap.size (2 + j * 35)) (rn_ixa (E := 35) (sz := 35) (m := 4) (by omega)) ?_)
        refine wpF_step (op_v (some 44) (Instr.loadAt 35 (vP w.heap.size (2 + j * 35))) (vA (recC (x.rs.get j))) (rn_lda (vs := recC (x.rs.get j)) ((hBw1.ext hEm).at (2 + j * 35) (recC (x.rs.get j)) (nod_r (by omega))) (by rw [recC_len]; kernel_rfl)) ?_)
        refine wpF_step (op_call (some 45) (c_rCheckRecord (x.rs.get j) _) ?_)
        rintro _ w4 ⟨rfl, hEw4⟩
        have hzw4 := hEw4.size
        refine wpF_run 1 [(5, (vI (chkR (x.rs.get j))))] (wpF_end (then_code (wpC_seq (wpC_seq (wpC_region (wpF_run 1 [(46, (vP w.heap.size 0))] (wpF_step (op_v (some 47) (Instr.loadAt 5 (vP w.heap.size 0)) (vB x.lv) (rn_ld ((((hBw1.ext hEm)).ext hEw4).cell rfl)) ?_))))))))
        refine wpF_step (op_split (some 48) (decide (((x.lv : Nat) : Int) > ((0 : Nat) : Int))) (fun hc48 => ?_) (fun hc48 => ?_))
        · replace hc48 : x.lv > 0 := by have := of_d_t hc48; omega
          refine wpF_end (then_code (wpC_true (wpC_region (wpF_run 2 [(50, (vP w.heap.size 142)), (49, (vI j))] (wpF_step (op_v (some 51) (Instr.indexAt 39 (vP w.heap.size 142) (vI j)) (vP w.heap.size (142 + j * 33)) (rn_ixa (E := 38) (sz := 33) (m := 4) (by omega)) ?_))))))
          refine wpF_step (op_v (some 52) (Instr.loadAt 38 (vP w.heap.size (142 + j * 33))) (vA (entC (x.es.get j))) (rn_lda (vs := entC (x.es.get j)) ((((hBw1.ext hEm)).ext hEw4).at (142 + j * 33) (entC (x.es.get j)) (nod_e (by omega))) (by rw [entC_len]; kernel_rfl)) ?_)
          refine wpF_step (op_call (some 53) (c_rCheckEntry (x.es.get j) _) ?_)
          rintro _ w5 ⟨rfl, hEw5⟩
          have hzw5 := hEw5.size
          refine wpF_run 1 [(5, (vI (chkE (x.es.get j))))] (wpF_end (then_code (wpC_seq (wpC_region (wpF_run 1 [(54, (vI (chkE (x.es.get j))))] (wpF_step (op_split (some 55) ((((chkE (x.es.get j) : Nat) : Int) != ((0 : Nat) : Int))) (fun hc55 => ?_) (fun hc55 => ?_))))))))
          · replace hc55 : ¬ (chkE (x.es.get j) = 0) := by have := of_ne_t hc55; omega
            refine wpF_end (then_code (wpC_true (wpC_seq (wpC_region (wpF_run 2 [(2, (vI (chkE (x.es.get j)))), (56, (vI (chkE (x.es.get j))))] (wpF_end (then_code (wpC_ret (inBlock_ret ?_)))))))))
            refine then_ret (then_ret (inBlock_ret (then_ret (body_rets (vI (chkE (x.es.get j))) ?_))))
            have hX1 : Ext w w5 := (((hEw1.trans hEm).trans hEw4).trans hEw5)
            exact ⟨congrArg (fun z : Nat => vI z) (by rw [chkN_of (by omega) hz, ckA_stopE (by omega) (by omega) (by omega)]), hX1⟩
          · replace hc55 : chkE (x.es.get j) = 0 := by have := of_ne_f hc55; omega
            refine wpF_end (then_code (wpC_false (wpC_skip (inBlock_normal (then_code (wpC_region (wpF_run 1 [(39, (vI j))] (wpF_step (op_in (some 40) .i64 (IntKind.i64.wrap (((j : Nat) : Int) + ((1 : Nat) : Int))) (j + 1) (wrapS (by omega) (by omega) (by omega)) ?_)))))))))
            refine wpF_run 1 [(4, (vI (j + 1)))] (wpF_end (then_normal (endR_mk (j + 1) ?_ ?_)))
            · exact ⟨by omega, by rw [ckA_E hck (by omega)]; omega, ((hEm.trans hEw4).trans hEw5)⟩
            · first | omega | (dsimp only; omega)
        · replace hc48 : ¬ (x.lv > 0) := by have := of_d_f hc48; omega
          refine wpF_end (then_code (wpC_false (wpC_skip (then_code (wpC_seq (wpC_region (wpF_run 1 [(54, (vI (chkR (x.rs.get j))))] (wpF_step (op_split (some 55) ((((chkR (x.rs.get j) : Nat) : Int) != ((0 : Nat) : Int))) (fun hc55 => ?_) (fun hc55 => ?_))))))))))
          · replace hc55 : ¬ (chkR (x.rs.get j) = 0) := by have := of_ne_t hc55; omega
            refine wpF_end (then_code (wpC_true (wpC_seq (wpC_region (wpF_run 2 [(2, (vI (chkR (x.rs.get j)))), (56, (vI (chkR (x.rs.get j))))] (wpF_end (then_code (wpC_ret (inBlock_ret ?_)))))))))
            exact then_ret (then_ret (inBlock_ret (then_ret (body_rets (vI (chkR (x.rs.get j))) (⟨congrArg (fun z : Nat => vI z) (by rw [chkN_of (by omega) hz, ckA_stopR (by omega) (by omega) (by omega)]), ((hEw1.trans hEm).trans hEw4)⟩)))))
          · replace hc55 : chkR (x.rs.get j) = 0 := by have := of_ne_f hc55; omega
            refine wpF_end (then_code (wpC_false (wpC_skip (inBlock_normal (then_code (wpC_region (wpF_run 1 [(39, (vI j))] (wpF_step (op_in (some 40) .i64 (IntKind.i64.wrap (((j : Nat) : Int) + ((1 : Nat) : Int))) (j + 1) (wrapS (by omega) (by omega) (by omega)) ?_)))))))))
            refine wpF_run 1 [(4, (vI (j + 1)))] (wpF_end (then_normal (endR_mk (j + 1) ?_ ?_)))
            · exact ⟨by omega, by rw [ckA_R hck (by omega)]; omega, (hEm.trans hEw4)⟩
            · first | omega | (dsimp only; omega)
      · replace hc38 : ¬ (j < 4) := by have := of_d_f hc38; omega
        refine wpF_end (then_code (wpC_false (wpC_exit (then_exit (then_exit (inBlock_exit (then_code (wpC_seq (wpC_region ?_)))))))))
        refine wpF_run 1 [(2, (vI 0))] (wpF_end (then_code (wpC_ret (body_rets (vI 0) ?_))))
        obtain rfl : j = 4 := by omega
        exact ⟨congrArg (fun z : Nat => vI z) ((by rw [chkN_of (by omega) hz]; exact hck.symm)), (hEw1.trans hEm)⟩

end Go.Proofs.YtpcbhalagllhnaaDoor
