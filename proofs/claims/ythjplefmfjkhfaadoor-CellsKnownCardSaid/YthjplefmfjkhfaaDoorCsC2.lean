/- CsC2: what each function does, by its own code. No condition beyond those of each statement. -/
import Derived.Test.YthjplefmfjkhfaaDoorCsC1
namespace Go.Proofs.YthjplefmfjkhfaaDoor
open Go Go.RowKit Go.Cs
set_option maxRecDepth 100000
set_option linter.all false
set_option linter.unusedVariables false

theorem c_Fol (a : Cel) (b : Cel)  (w : World)  :
    Calls Tryd.prog 16 #[(vA (celC a)), (vA (celC b))] w (Ret fun r w' => r = (vB (fol a b)) ∧ Ext w w') := by
  refine calls_of (n := 39) (σ := [(0, (vA (celC a))), (1, (vA (celC b)))]) Tryd.func16 rfl ?_
  have hea := a.hep
  have hma := a.hmk
  have heb := b.hep
  have hmb := b.hmk
  refine wpC_seq (wpC_region (wpF_step (op_new (some 2) (Instr.box 30 (vA (celC a))) (vP w.heap.size 0) (celC a) 30 ?_)))
  intro w1 hBw1 hEw1
  have hzw1 := hEw1.size; have hlw1 := hBw1.lt
  refine wpF_step (op_new (some 3) (Instr.box 30 (vA (celC b))) (vP w1.heap.size 0) (celC b) 30 ?_)
  intro w2 hBw2 hEw2
  have hzw2 := hEw2.size; have hlw2 := hBw2.lt
  refine wpF_run 1 [(4, (vB 0))] (wpF_end (then_code (wpC_seq (wpC_region (wpF_step (op_v (some 8) (Instr.loadAt 30 (vP w.heap.size 0)) (vA (celC a)) (rn_lda (vs := celC a) ((hBw1.ext hEw2).all) (by rw [celC_len]; kernel_rfl)) ?_))))))
  refine wpF_run 1 [(9, (vP w1.heap.size 0))] (wpF_step (op_v (some 10) (Instr.loadAt 27 (vP w1.heap.size 0)) (vA (digC b.root)) (rn_lda (vs := digC b.root) (hBw2.at 0 (digC b.root) (cel_root _)) (by rw [digC_len]; kernel_rfl)) ?_))
  rcases Classical.em (a.ep = 2 ^ 64 - 1) with hmax | hmax
  · refine wpF_step (op_call (some 11) (c_CNextBad a b.root _ (by first | omega | decide)) ?_)
    rintro _ w3 ⟨rfl, hEw3⟩
    have hzw3 := hEw3.size
    refine wpF_run 3 [(13, (vI 3)), (12, (vA (celC Cel.zero))), (7, (.tuple #[(vA (celC Cel.zero)), (vI 3)]))] (wpF_step (op_new (some 5) (Instr.alloc 30 true (.tuple #[])) (vP w3.heap.size 0) (celC Cel.zero) 30 ?_))
    intro w4 hBw4 hEw4
    have hzw4 := hEw4.size; have hlw4 := hBw4.lt
    refine wpF_step (op_store 30 w3.heap.size 0 30 (vA (celC Cel.zero)) (celC Cel.zero) (celC Cel.zero) hBw4 (by rw [celC_len]; kernel_rfl) (by first | (simp; done) | (simp; omega)) (celC_one _) ?_)
    intro w5 hBw5 hCw5
    have hzw5 := hCw5.size
    rw [setFrom_all _ _ (by simp)] at hBw5
    refine wpF_run 1 [(6, (vI 3))] (wpF_end (then_code (wpC_seq (wpC_block (wpC_seq (wpC_region (wpF_run 8 [(14, vF), (21, vF), (20, undef), (19, undef), (18, undef), (17, vF), (16, vF), (15, (vI 3))] (wpF_end (then_code ?_)))))))))
    refine wpC_false (wpC_seq (wpC_region (wpF_run 1 [(23, (vP w1.heap.size 33))] ?_)))
    have hK1 := (((((hBw2.ext hEw3)).ext hEw4)).chg hCw5 (fun hs => by have h : _ = _ := hs; omega))
    refine wpF_step (op_v (some 24) (Instr.loadAt 28 (vP w1.heap.size 33)) (vQ b.mark) (rn_ld (hK1.cell (cel_mk _))) ?_)
    refine wpF_run 1 [(25, (vP w.heap.size 33))] ?_
    have hK2 := (((((((hBw1.ext hEw2)).ext hEw3)).ext hEw4)).chg hCw5 (fun hs => by have h : _ = _ := hs; omega))
    refine wpF_step (op_v (some 26) (Instr.loadAt 28 (vP w.heap.size 33)) (vQ a.mark) (rn_ld (hK2.cell (cel_mk _))) ?_)
    refine wpF_step (op_split (some 27) (decide (((b.mark : Nat) : Int) > ((a.mark : Nat) : Int))) (fun hc27 => ?_) (fun hc27 => ?_))
    · replace hc27 : b.mark > a.mark := by have := of_d_t hc27; omega
      refine wpF_run 2 [(29, (vP w.heap.size 0)), (28, vT)] (wpF_step (op_v (some 30) (Instr.loadAt 27 (vP w.heap.size 0)) (vA (digC a.root)) (rn_lda (vs := digC a.root) (hK2.at 0 (digC a.root) (cel_root _)) (by rw [digC_len]; kernel_rfl)) ?_))
      refine wpF_run 1 [(31, (vP w.heap.size 32))] (wpF_step (op_v (some 32) (Instr.loadAt 28 (vP w.heap.size 32)) (vQ a.ep) (rn_ld (hK2.cell (cel_ep _))) ?_))
      refine wpF_run 1 [(33, (vP w1.heap.size 33))] (wpF_step (op_v (some 34) (Instr.loadAt 28 (vP w1.heap.size 33)) (vQ b.mark) (rn_ld (hK1.cell (cel_mk _))) ?_))
      refine wpF_step (op_v (some 35) (Instr.build 30 #[(0, (vA (digC a.root))), (1, (vQ a.ep)), (2, (vQ b.mark))]) (vA (celC (⟨a.root, a.ep, b.mark, a.hep, b.hmk⟩ : Cel))) ((run_build_cel a.root a.ep b.mark (by omega) (by omega)).trans (congrArg (fun z : Cel => Result.ok (Value.agg (celC z).toArray) _) (show (⟨a.root, a.ep, b.mark, by omega, by omega⟩ : Cel) = (⟨a.root, a.ep, b.mark, a.hep, b.hmk⟩ : Cel) from rfl))) ?_)
      refine wpF_step (op_v (some 36) (Instr.loadAt 30 (vP w1.heap.size 0)) (vA (celC b)) (rn_lda (vs := celC b) (hK1.all) (by rw [celC_len]; kernel_rfl)) ?_)
      rcases Bool.eq_false_or_eq_true ((⟨a.root, a.ep, b.mark, a.hep, b.hmk⟩ : Cel).eqb b) with hq37 | hq37
      · refine wpF_step (op_v (some 37) (bo .eql 30 (.tmp 35) (.tmp 36) (vA (celC (⟨a.root, a.ep, b.mark, a.hep, b.hmk⟩ : Cel))) (vA (celC b))) vT (run_eqlAgg (r := true) (T := 30) ((run_eq_cel (dd := 9997) (t := 30) (td := 27) (e := 5) (t64 := 28) (⟨a.root, a.ep, b.mark, a.hep, b.hmk⟩ : Cel) b).trans (congrArg (fun b => Result.ok b _) (show ((⟨a.root, a.ep, b.mark, a.hep, b.hmk⟩ : Cel).eqb b) = true from hq37)))) ?_)
        refine wpF_run 2 [(22, vT), (38, vT)] (wpF_end (then_code (wpC_true (wpC_seq (wpC_region (wpF_run 1 [(4, (vB 2))] (wpF_end (then_code (wpC_ret ?_)))))))))
        refine inBlock_ret (then_ret (body_rets (vB 2) ?_))
        have hn : ¬ (a.ep + 1 = b.ep ∧ a.mark = b.mark) := fun h => by have := h.1; omega
        have hX1 : Ext w w5 := (Ext.own (((hEw1.trans hEw2).trans hEw3).trans hEw4) hCw5 (by omega))
        refine ⟨congrArg (fun z : Nat => vB z) (by unfold fol; rw [if_neg hn]; (try simp only [Cel.eqb, Bool.and_eq_true, Bool.and_eq_false_iff, beq_iff_eq, beq_eq_false_iff_ne] at hq37); split <;> first | rfl | omega | simp_all | (simp_all; omega)), hX1⟩
      · refine wpF_step (op_v (some 37) (bo .eql 30 (.tmp 35) (.tmp 36) (vA (celC (⟨a.root, a.ep, b.mark, a.hep, b.hmk⟩ : Cel))) (vA (celC b))) vF (run_eqlAgg (r := false) (T := 30) ((run_eq_cel (dd := 9997) (t := 30) (td := 27) (e := 5) (t64 := 28) (⟨a.root, a.ep, b.mark, a.hep, b.hmk⟩ : Cel) b).trans (congrArg (fun b => Result.ok b _) (show ((⟨a.root, a.ep, b.mark, a.hep, b.hmk⟩ : Cel).eqb b) = false from hq37)))) ?_)
        refine wpF_run 2 [(22, vF), (38, vF)] (wpF_end (then_code (wpC_false (wpC_skip (inBlock_normal (then_code (wpC_seq (wpC_region (wpF_run 1 [(4, (vB 0))] ?_)))))))))
        refine wpF_end (then_code (wpC_ret (body_rets (vB 0) ?_)))
        have hn : ¬ (a.ep + 1 = b.ep ∧ a.mark = b.mark) := fun h => by have := h.1; omega
        have hX2 : Ext w w5 := (Ext.own (((hEw1.trans hEw2).trans hEw3).trans hEw4) hCw5 (by omega))
        refine ⟨congrArg (fun z : Nat => vB z) (by unfold fol; rw [if_neg hn]; (try simp only [Cel.eqb, Bool.and_eq_true, Bool.and_eq_false_iff, beq_iff_eq, beq_eq_false_iff_ne] at hq37); split <;> first | rfl | omega | simp_all | (simp_all; omega)), hX2⟩
    · replace hc27 : ¬ (b.mark > a.mark) := by have := of_d_f hc27; omega
      refine wpF_run 12 [(22, vF), (38, vF), (37, undef), (36, undef), (35, undef), (34, undef), (33, undef), (32, undef), (31, undef), (30, undef), (29, undef), (28, vF)] (wpF_end (then_code (wpC_false (wpC_skip (inBlock_normal (then_code (wpC_seq (wpC_region (wpF_run 1 [(4, (vB 0))] ?_)))))))))
      refine wpF_end (then_code (wpC_ret (body_rets (vB 0) ?_)))
      have hn : ¬ (a.ep + 1 = b.ep ∧ a.mark = b.mark) := fun h => by have := h.1; omega
      have hX3 : Ext w w5 := (Ext.own (((hEw1.trans hEw2).trans hEw3).trans hEw4) hCw5 (by omega))
      refine ⟨congrArg (fun z : Nat => vB z) (by unfold fol; rw [if_neg hn]; (try simp only [Cel.eqb, Bool.and_eq_true, Bool.and_eq_false_iff, beq_iff_eq, beq_eq_false_iff_ne] at hq37); split <;> first | rfl | omega | simp_all | (simp_all; omega)), hX3⟩
  · refine wpF_step (op_call (some 11) (c_CNext a b.root _ (by first | omega | decide)) ?_)
    rintro _ w6 ⟨rfl, hEw6⟩
    have hzw6 := hEw6.size
    refine wpF_run 3 [(13, (vI 0)), (12, (vA (celC (a.nxt b.root)))), (7, (.tuple #[(vA (celC (a.nxt b.root))), (vI 0)]))] (wpF_step (op_new (some 5) (Instr.alloc 30 true (.tuple #[])) (vP w6.heap.size 0) (celC Cel.zero) 30 ?_))
    intro w7 hBw7 hEw7
    have hzw7 := hEw7.size; have hlw7 := hBw7.lt
    refine wpF_step (op_store 30 w6.heap.size 0 30 (vA (celC (a.nxt b.root))) (celC Cel.zero) (celC (a.nxt b.root)) hBw7 (by rw [celC_len]; kernel_rfl) (by first | (simp; done) | (simp; omega)) (celC_one _) ?_)
    intro w8 hBw8 hCw8
    have hzw8 := hCw8.size
    rw [setFrom_all _ _ (by simp)] at hBw8
    refine wpF_run 1 [(6, (vI 0))] (wpF_end (then_code (wpC_seq (wpC_block (wpC_seq (wpC_region (wpF_run 3 [(17, vT), (16, vT), (15, (vI 0))] (wpF_step (op_v (some 18) (Instr.loadAt 30 (vP w6.heap.size 0)) (vA (celC (a.nxt b.root))) (rn_lda (vs := celC (a.nxt b.root)) (hBw8.all) (by rw [celC_len]; kernel_rfl)) ?_)))))))))
    have hK3 := (((((hBw2.ext hEw6)).ext hEw7)).chg hCw8 (fun hs => by have h : _ = _ := hs; omega))
    refine wpF_step (op_v (some 19) (Instr.loadAt 30 (vP w1.heap.size 0)) (vA (celC b)) (rn_lda (vs := celC b) (hK3.all) (by rw [celC_len]; kernel_rfl)) ?_)
    rcases Bool.eq_false_or_eq_true ((a.nxt b.root).eqb b) with hq20 | hq20
    · refine wpF_step (op_v (some 20) (bo .eql 30 (.tmp 18) (.tmp 19) (vA (celC (a.nxt b.root))) (vA (celC b))) vT (run_eqlAgg (r := true) (T := 30) ((run_eq_cel (dd := 9997) (t := 30) (td := 27) (e := 5) (t64 := 28) (a.nxt b.root) b).trans (congrArg (fun b => Result.ok b _) (show ((a.nxt b.root).eqb b) = true from hq20)))) ?_)
      refine wpF_run 2 [(14, vT), (21, vT)] (wpF_end (then_code (wpC_true (wpC_seq (wpC_region (wpF_run 1 [(4, (vB 1))] (wpF_end (then_code (wpC_ret ?_)))))))))
      refine inBlock_ret (then_ret (body_rets (vB 1) ?_))
      have hX4 : Ext w w8 := (Ext.own (((hEw1.trans hEw2).trans hEw6).trans hEw7) hCw8 (by omega))
      refine ⟨congrArg (fun z : Nat => vB z) (by unfold fol; rw [if_pos ((eqb_nxt hmax).1 hq20)]), hX4⟩
    · refine wpF_step (op_v (some 20) (bo .eql 30 (.tmp 18) (.tmp 19) (vA (celC (a.nxt b.root))) (vA (celC b))) vF (run_eqlAgg (r := false) (T := 30) ((run_eq_cel (dd := 9997) (t := 30) (td := 27) (e := 5) (t64 := 28) (a.nxt b.root) b).trans (congrArg (fun b => Result.ok b _) (show ((a.nxt b.root).eqb b) = false from hq20)))) ?_)
      refine wpF_run 2 [(14, vF), (21, vF)] (wpF_end (then_code (wpC_false (wpC_seq (wpC_region (wpF_run 1 [(23, (vP w1.heap.size 33))] (wpF_step (op_v (some 24) (Instr.loadAt 28 (vP w1.heap.size 33)) (vQ b.mark) (rn_ld (hK3.cell (cel_mk _))) ?_))))))))
      refine wpF_run 1 [(25, (vP w.heap.size 33))] ?_
      have hK4 := (((((((hBw1.ext hEw2)).ext hEw6)).ext hEw7)).chg hCw8 (fun hs => by have h : _ = _ := hs; omega))
      refine wpF_step (op_v (some 26) (Instr.loadAt 28 (vP w.heap.size 33)) (vQ a.mark) (rn_ld (hK4.cell (cel_mk _))) ?_)
      refine wpF_step (op_split (some 27) (decide (((b.mark : Nat) : Int) > ((a.mark : Nat) : Int))) (fun hc27 => ?_) (fun hc27 => ?_))
      · replace hc27 : b.mark > a.mark := by have := of_d_t hc27; omega
        refine wpF_run 2 [(29, (vP w.heap.size 0)), (28, vT)] (wpF_step (op_v (some 30) (Instr.loadAt 27 (vP w.heap.size 0)) (vA (digC a.root)) (rn_lda (vs := digC a.root) (hK4.at 0 (digC a.root) (cel_root _)) (by rw [digC_len]; kernel_rfl)) ?_))
        refine wpF_run 1 [(31, (vP w.heap.size 32))] (wpF_step (op_v (some 32) (Instr.loadAt 28 (vP w.heap.size 32)) (vQ a.ep) (rn_ld (hK4.cell (cel_ep _))) ?_))
        refine wpF_run 1 [(33, (vP w1.heap.size 33))] (wpF_step (op_v (some 34) (Instr.loadAt 28 (vP w1.heap.size 33)) (vQ b.mark) (rn_ld (hK3.cell (cel_mk _))) ?_))
        refine wpF_step (op_v (some 35) (Instr.build 30 #[(0, (vA (digC a.root))), (1, (vQ a.ep)), (2, (vQ b.mark))]) (vA (celC (⟨a.root, a.ep, b.mark, a.hep, b.hmk⟩ : Cel))) ((run_build_cel a.root a.ep b.mark (by omega) (by omega)).trans (congrArg (fun z : Cel => Result.ok (Value.agg (celC z).toArray) _) (show (⟨a.root, a.ep, b.mark, by omega, by omega⟩ : Cel) = (⟨a.root, a.ep, b.mark, a.hep, b.hmk⟩ : Cel) from rfl))) ?_)
        refine wpF_step (op_v (some 36) (Instr.loadAt 30 (vP w1.heap.size 0)) (vA (celC b)) (rn_lda (vs := celC b) (hK3.all) (by rw [celC_len]; kernel_rfl)) ?_)
        rcases Bool.eq_false_or_eq_true ((⟨a.root, a.ep, b.mark, a.hep, b.hmk⟩ : Cel).eqb b) with hq37 | hq37
        · refine wpF_step (op_v (some 37) (bo .eql 30 (.tmp 35) (.tmp 36) (vA (celC (⟨a.root, a.ep, b.mark, a.hep, b.hmk⟩ : Cel))) (vA (celC b))) vT (run_eqlAgg (r := true) (T := 30) ((run_eq_cel (dd := 9997) (t := 30) (td := 27) (e := 5) (t64 := 28) (⟨a.root, a.ep, b.mark, a.hep, b.hmk⟩ : Cel) b).trans (congrArg (fun b => Result.ok b _) (show ((⟨a.root, a.ep, b.mark, a.hep, b.hmk⟩ : Cel).eqb b) = true from hq37)))) ?_)
          refine wpF_run 2 [(22, vT), (38, vT)] (wpF_end (then_code (wpC_true (wpC_seq (wpC_region (wpF_run 1 [(4, (vB 2))] (wpF_end (then_code (wpC_ret ?_)))))))))
          refine inBlock_ret (then_ret (body_rets (vB 2) ?_))
          have hn : ¬ (a.ep + 1 = b.ep ∧ a.mark = b.mark) := fun h => by rw [(eqb_nxt hmax).2 h] at hq20; cases hq20
          have hX5 : Ext w w8 := (Ext.own (((hEw1.trans hEw2).trans hEw6).trans hEw7) hCw8 (by omega))
          refine ⟨congrArg (fun z : Nat => vB z) (by unfold fol; rw [if_neg hn]; (try simp only [Cel.eqb, Bool.and_eq_true, Bool.and_eq_false_iff, beq_iff_eq, beq_eq_false_iff_ne] at hq37); split <;> first | rfl | omega | simp_all | (simp_all; omega)), hX5⟩
        · refine wpF_step (op_v (some 37) (bo .eql 30 (.tmp 35) (.tmp 36) (vA (celC (⟨a.root, a.ep, b.mark, a.hep, b.hmk⟩ : Cel))) (vA (celC b))) vF (run_eqlAgg (r := false) (T := 30) ((run_eq_cel (dd := 9997) (t := 30) (td := 27) (e := 5) (t64 := 28) (⟨a.root, a.ep, b.mark, a.hep, b.hmk⟩ : Cel) b).trans (congrArg (fun b => Result.ok b _) (show ((⟨a.root, a.ep, b.mark, a.hep, b.hmk⟩ : Cel).eqb b) = false from hq37)))) ?_)
          refine wpF_run 2 [(22, vF), (38, vF)] (wpF_end (then_code (wpC_false (wpC_skip (inBlock_normal (then_code (wpC_seq (wpC_region (wpF_run 1 [(4, (vB 0))] ?_)))))))))
          refine wpF_end (then_code (wpC_ret (body_rets (vB 0) ?_)))
          have hn : ¬ (a.ep + 1 = b.ep ∧ a.mark = b.mark) := fun h => by rw [(eqb_nxt hmax).2 h] at hq20; cases hq20
          have hX6 : Ext w w8 := (Ext.own (((hEw1.trans hEw2).trans hEw6).trans hEw7) hCw8 (by omega))
          refine ⟨congrArg (fun z : Nat => vB z) (by unfold fol; rw [if_neg hn]; (try simp only [Cel.eqb, Bool.and_eq_true, Bool.and_eq_false_iff, beq_iff_eq, beq_eq_false_iff_ne] at hq37); split <;> first | rfl | omega | simp_all | (simp_all; omega)), hX6⟩
      · replace hc27 : ¬ (b.mark > a.mark) := by have := of_d_f hc27; omega
        refine wpF_run 12 [(22, vF), (38, vF), (37, undef), (36, undef), (35, undef), (34, undef), (33, undef), (32, undef), (31, undef), (30, undef), (29, undef), (28, vF)] (wpF_end (then_code (wpC_false (wpC_skip (inBlock_normal (then_code (wpC_seq (wpC_region (wpF_run 1 [(4, (vB 0))] ?_)))))))))
        refine wpF_end (then_code (wpC_ret (body_rets (vB 0) ?_)))
        have hn : ¬ (a.ep + 1 = b.ep ∧ a.mark = b.mark) := fun h => by rw [(eqb_nxt hmax).2 h] at hq20; cases hq20
        have hX7 : Ext w w8 := (Ext.own (((hEw1.trans hEw2).trans hEw6).trans hEw7) hCw8 (by omega))
        refine ⟨congrArg (fun z : Nat => vB z) (by unfold fol; rw [if_neg hn]; (try simp only [Cel.eqb, Bool.and_eq_true, Bool.and_eq_false_iff, beq_iff_eq, beq_eq_false_iff_ne] at hq37); split <;> first | rfl | omega | simp_all | (simp_all; omega)), hX7⟩

theorem c_RsvArg (a : Cel) (k : Nat) (m : Nat)  (w : World) (hp0 : k = 0) :
    Calls Tryd.prog 17 #[(vA (celC a)), (vQ k), (vQ m)] w (Ret fun r w' => r = (.tuple #[(vA (celC Cel.zero)), (vI 1)]) ∧ Ext w w') := by
  refine calls_of (n := 32) (σ := [(0, (vA (celC a))), (1, (vQ k)), (2, (vQ m))]) Tryd.func17 rfl ?_
  refine wpC_seq (wpC_region (wpF_step (op_new (some 3) (Instr.box 30 (vA (celC a))) (vP w.heap.size 0) (celC a) 30 ?_)))
  intro w1 hBw1 hEw1
  have hzw1 := hEw1.size; have hlw1 := hBw1.lt
  refine wpF_step (op_new (some 6) (Instr.alloc 30 true (.tuple #[])) (vP w1.heap.size 0) (celC Cel.zero) 30 ?_)
  intro w2 hBw2 hEw2
  have hzw2 := hEw2.size; have hlw2 := hBw2.lt
  refine wpF_run 1 [(7, (vI 0))] (wpF_end (then_code (wpC_seq (wpC_block (wpC_seq (wpC_region (wpF_run 1 [(9, (vQ k))] (wpF_step (op_b (some 10) (((k : Nat) : Int) == ((0 : Nat) : Int)) true (cmpEqT (by omega)) ?_)))))))))
  refine wpF_run 1 [(8, vT)] (wpF_end (then_code (wpC_true (wpC_seq (wpC_region (wpF_run 1 [(11, (vA (celC Cel.zero)))] (wpF_step (op_store 30 w1.heap.size 0 30 (vA (celC Cel.zero)) (celC Cel.zero) (celC Cel.zero) hBw2 (by rw [celC_len]; kernel_rfl) (by first | (simp; done) | (simp; omega)) (celC_one _) ?_))))))))
  intro w3 hBw3 hCw3
  have hzw3 := hCw3.size
  rw [setFrom_all _ _ (by simp)] at hBw3
  exact wpF_run 1 [(7, (vI 1))] (wpF_end (then_code (wpC_ret (inBlock_ret (then_ret (body_ret2 (show resVal Tryd.prog 32 _ _ (.cell 6 30) (vA (celC Cel.zero)) from ⟨⟨w1.heap.size, 0, none⟩, (by kernel_rfl), run_loadVar_agg (T := 30) (vs := celC Cel.zero) (hBw3).all (by rw [celC_len]; kernel_rfl)⟩) (show resVal Tryd.prog 32 _ _ (.tmp 7) (vI 1) by (show _ = _; kernel_rfl)) (⟨rfl, (Ext.own (hEw1.trans hEw2) hCw3 (by omega))⟩)))))))

theorem c_RsvA (a : Cel) (k : Nat) (m : Nat)  (w : World) (hp0 : k ≠ 0) (hp1 : m < a.mark) :
    Calls Tryd.prog 17 #[(vA (celC a)), (vQ k), (vQ m)] w (Ret fun r w' => r = (.tuple #[(vA (celC Cel.zero)), (vI 8)]) ∧ Ext w w') := by
  refine calls_of (n := 32) (σ := [(0, (vA (celC a))), (1, (vQ k)), (2, (vQ m))]) Tryd.func17 rfl ?_
  refine wpC_seq (wpC_region (wpF_step (op_new (some 3) (Instr.box 30 (vA (celC a))) (vP w.heap.size 0) (celC a) 30 ?_)))
  intro w1 hBw1 hEw1
  have hzw1 := hEw1.size; have hlw1 := hBw1.lt
  refine wpF_step (op_new (some 6) (Instr.alloc 30 true (.tuple #[])) (vP w1.heap.size 0) (celC Cel.zero) 30 ?_)
  intro w2 hBw2 hEw2
  have hzw2 := hEw2.size; have hlw2 := hBw2.lt
  refine wpF_run 1 [(7, (vI 0))] (wpF_end (then_code (wpC_seq (wpC_block (wpC_seq (wpC_region (wpF_run 1 [(9, (vQ k))] (wpF_step (op_b (some 10) (((k : Nat) : Int) == ((0 : Nat) : Int)) false (cmpEqF (by omega)) ?_)))))))))
  refine wpF_run 1 [(8, vF)] (wpF_end (then_code (wpC_false (wpC_seq (wpC_region (wpF_run 1 [(13, (vP w.heap.size 33))] (wpF_step (op_v (some 14) (Instr.loadAt 28 (vP w.heap.size 33)) (vQ a.mark) (rn_ld ((hBw1.ext hEw2).cell (cel_mk _))) ?_))))))))
  refine wpF_run 1 [(15, (vQ m))] (wpF_step (op_b (some 16) (decide (((a.mark : Nat) : Int) > ((m : Nat) : Int))) true (cmpDT (by omega)) ?_))
  refine wpF_run 9 [(12, vT), (24, vT), (23, undef), (22, undef), (21, undef), (20, undef), (19, undef), (18, undef), (17, vT)] (wpF_end (then_code (wpC_true (wpC_seq (wpC_region (wpF_run 1 [(25, (vA (celC Cel.zero)))] (wpF_step (op_store 30 w1.heap.size 0 30 (vA (celC Cel.zero)) (celC Cel.zero) (celC Cel.zero) hBw2 (by rw [celC_len]; kernel_rfl) (by first | (simp; done) | (simp; omega)) (celC_one _) ?_))))))))
  intro w3 hBw3 hCw3
  have hzw3 := hCw3.size
  rw [setFrom_all _ _ (by simp)] at hBw3
  exact wpF_run 1 [(7, (vI 8))] (wpF_end (then_code (wpC_ret (inBlock_ret (then_ret (body_ret2 (show resVal Tryd.prog 32 _ _ (.cell 6 30) (vA (celC Cel.zero)) from ⟨⟨w1.heap.size, 0, none⟩, (by kernel_rfl), run_loadVar_agg (T := 30) (vs := celC Cel.zero) (hBw3).all (by rw [celC_len]; kernel_rfl)⟩) (show resVal Tryd.prog 32 _ _ (.tmp 7) (vI 8) by (show _ = _; kernel_rfl)) (⟨rfl, (Ext.own (hEw1.trans hEw2) hCw3 (by omega))⟩)))))))

theorem c_RsvB (a : Cel) (k : Nat) (m : Nat)  (w : World) (hp0 : k ≠ 0) (hp1 : a.mark ≤ m) (hp2 : m < a.mark + k) (hp3 : m < 2 ^ 64) :
    Calls Tryd.prog 17 #[(vA (celC a)), (vQ k), (vQ m)] w (Ret fun r w' => r = (.tuple #[(vA (celC Cel.zero)), (vI 8)]) ∧ Ext w w') := by
  refine calls_of (n := 32) (σ := [(0, (vA (celC a))), (1, (vQ k)), (2, (vQ m))]) Tryd.func17 rfl ?_
  have hma := a.hmk
  refine wpC_seq (wpC_region (wpF_step (op_new (some 3) (Instr.box 30 (vA (celC a))) (vP w.heap.size 0) (celC a) 30 ?_)))
  intro w1 hBw1 hEw1
  have hzw1 := hEw1.size; have hlw1 := hBw1.lt
  refine wpF_step (op_new (some 6) (Instr.alloc 30 true (.tuple #[])) (vP w1.heap.size 0) (celC Cel.zero) 30 ?_)
  intro w2 hBw2 hEw2
  have hzw2 := hEw2.size; have hlw2 := hBw2.lt
  refine wpF_run 1 [(7, (vI 0))] (wpF_end (then_code (wpC_seq (wpC_block (wpC_seq (wpC_region (wpF_run 1 [(9, (vQ k))] (wpF_step (op_b (some 10) (((k : Nat) : Int) == ((0 : Nat) : Int)) false (cmpEqF (by omega)) ?_)))))))))
  refine wpF_run 1 [(8, vF)] (wpF_end (then_code (wpC_false (wpC_seq (wpC_region (wpF_run 1 [(13, (vP w.heap.size 33))] (wpF_step (op_v (some 14) (Instr.loadAt 28 (vP w.heap.size 33)) (vQ a.mark) (rn_ld ((hBw1.ext hEw2).cell (cel_mk _))) ?_))))))))
  refine wpF_run 1 [(15, (vQ m))] (wpF_step (op_b (some 16) (decide (((a.mark : Nat) : Int) > ((m : Nat) : Int))) false (cmpDF (by omega)) ?_))
  refine wpF_run 4 [(20, (vP w.heap.size 33)), (19, (vQ m)), (18, (vQ k)), (17, vF)] (wpF_step (op_v (some 21) (Instr.loadAt 28 (vP w.heap.size 33)) (vQ a.mark) (rn_ld ((hBw1.ext hEw2).cell (cel_mk _))) ?_))
  refine wpF_step (op_in (some 22) .u64 (IntKind.u64.wrap (((m : Nat) : Int) - ((a.mark : Nat) : Int))) (m - a.mark) (wrapUx rfl (by omega) (by show _ < 2 ^ 64; omega)) ?_)
  refine wpF_step (op_b (some 23) (decide (((k : Nat) : Int) > ((m - a.mark : Nat) : Int))) true (cmpDT (by omega)) ?_)
  refine wpF_run 2 [(12, vT), (24, vT)] (wpF_end (then_code (wpC_true (wpC_seq (wpC_region (wpF_run 1 [(25, (vA (celC Cel.zero)))] (wpF_step (op_store 30 w1.heap.size 0 30 (vA (celC Cel.zero)) (celC Cel.zero) (celC Cel.zero) hBw2 (by rw [celC_len]; kernel_rfl) (by first | (simp; done) | (simp; omega)) (celC_one _) ?_))))))))
  intro w3 hBw3 hCw3
  have hzw3 := hCw3.size
  rw [setFrom_all _ _ (by simp)] at hBw3
  exact wpF_run 1 [(7, (vI 8))] (wpF_end (then_code (wpC_ret (inBlock_ret (then_ret (body_ret2 (show resVal Tryd.prog 32 _ _ (.cell 6 30) (vA (celC Cel.zero)) from ⟨⟨w1.heap.size, 0, none⟩, (by kernel_rfl), run_loadVar_agg (T := 30) (vs := celC Cel.zero) (hBw3).all (by rw [celC_len]; kernel_rfl)⟩) (show resVal Tryd.prog 32 _ _ (.tmp 7) (vI 8) by (show _ = _; kernel_rfl)) (⟨rfl, (Ext.own (hEw1.trans hEw2) hCw3 (by omega))⟩)))))))

theorem c_RsvBad (a : Cel) (k : Nat) (m : Nat)  (w : World) (hp0 : k ≠ 0) (hp1 : m < a.mark + k) (hp2 : m < 2 ^ 64) :
    Calls Tryd.prog 17 #[(vA (celC a)), (vQ k), (vQ m)] w (Ret fun r w' => r = (.tuple #[(vA (celC Cel.zero)), (vI 8)]) ∧ Ext w w') := by
  by_cases h : m < a.mark
  · exact c_RsvA a k m w hp0 h
  · exact c_RsvB a k m w hp0 (by omega) hp1 hp2

theorem c_Rsv (a : Cel) (k : Nat) (m : Nat)  (w : World) (hp0 : k ≠ 0) (hp1 : a.mark + k ≤ m) (hp2 : m < 2 ^ 64) :
    Calls Tryd.prog 17 #[(vA (celC a)), (vQ k), (vQ m)] w (Ret fun r w' => r = (.tuple #[(vA (celC (a.rsv k))), (vI 0)]) ∧ Ext w w') := by
  refine calls_of (n := 32) (σ := [(0, (vA (celC a))), (1, (vQ k)), (2, (vQ m))]) Tryd.func17 rfl ?_
  have hma := a.hmk
  refine wpC_seq (wpC_region (wpF_step (op_new (some 3) (Instr.box 30 (vA (celC a))) (vP w.heap.size 0) (celC a) 30 ?_)))
  intro w1 hBw1 hEw1
  have hzw1 := hEw1.size; have hlw1 := hBw1.lt
  refine wpF_step (op_new (some 6) (Instr.alloc 30 true (.tuple #[])) (vP w1.heap.size 0) (celC Cel.zero) 30 ?_)
  intro w2 hBw2 hEw2
  have hzw2 := hEw2.size; have hlw2 := hBw2.lt
  refine wpF_run 1 [(7, (vI 0))] (wpF_end (then_code (wpC_seq (wpC_block (wpC_seq (wpC_region (wpF_run 1 [(9, (vQ k))] (wpF_step (op_b (some 10) (((k : Nat) : Int) == ((0 : Nat) : Int)) false (cmpEqF (by omega)) ?_)))))))))
  refine wpF_run 1 [(8, vF)] (wpF_end (then_code (wpC_false (wpC_seq (wpC_region (wpF_run 1 [(13, (vP w.heap.size 33))] (wpF_step (op_v (some 14) (Instr.loadAt 28 (vP w.heap.size 33)) (vQ a.mark) (rn_ld ((hBw1.ext hEw2).cell (cel_mk _))) ?_))))))))
  refine wpF_run 1 [(15, (vQ m))] (wpF_step (op_b (some 16) (decide (((a.mark : Nat) : Int) > ((m : Nat) : Int))) false (cmpDF (by omega)) ?_))
  refine wpF_run 4 [(20, (vP w.heap.size 33)), (19, (vQ m)), (18, (vQ k)), (17, vF)] (wpF_step (op_v (some 21) (Instr.loadAt 28 (vP w.heap.size 33)) (vQ a.mark) (rn_ld ((hBw1.ext hEw2).cell (cel_mk _))) ?_))
  refine wpF_step (op_in (some 22) .u64 (IntKind.u64.wrap (((m : Nat) : Int) - ((a.mark : Nat) : Int))) (m - a.mark) (wrapUx rfl (by omega) (by show _ < 2 ^ 64; omega)) ?_)
  refine wpF_step (op_b (some 23) (decide (((k : Nat) : Int) > ((m - a.mark : Nat) : Int))) false (cmpDF (by omega)) ?_)
  refine wpF_run 2 [(12, vF), (24, vF)] (wpF_end (then_code (wpC_false (wpC_skip (inBlock_normal (then_code (wpC_seq (wpC_region (wpF_run 1 [(26, (vP w.heap.size 33))] ?_)))))))))
  refine wpF_step (op_v (some 27) (Instr.loadAt 28 (vP w.heap.size 33)) (vQ a.mark) (rn_ld ((hBw1.ext hEw2).cell (cel_mk _))) ?_)
  refine wpF_run 1 [(28, (vQ k))] (wpF_step (op_in (some 29) .u64 (IntKind.u64.wrap (((a.mark : Nat) : Int) + ((k : Nat) : Int))) ((a.mark + k) % 2 ^ 64) (wrapU rfl (by simp)) ?_))
  refine wpF_run 1 [(30, (vP w.heap.size 33))] (wpF_step (op_store1 28 w.heap.size 33 30 (vQ ((a.mark + k) % 2 ^ 64)) (celC a) (hBw1.ext hEw2) (by first | decide | (simp; done) | (simp; omega)) ?_))
  intro w3 hBw3 hCw3
  have hzw3 := hCw3.size
  rw [show ((celC a).set 33 (vQ ((a.mark + k) % 2 ^ 64)) : List Value) = celC (a.setMark ((a.mark + k) % 2 ^ 64) (Nat.mod_lt _ (by decide))) from cel_setMark (Nat.mod_lt _ (by decide))] at hBw3
  refine wpF_end (then_code (wpC_seq (wpC_region (wpF_step (op_v (some 31) (Instr.loadAt 30 (vP w.heap.size 0)) (vA (celC (a.setMark ((a.mark + k) % 2 ^ 64) (Nat.mod_lt _ (by decide))))) (rn_lda (vs := celC (a.setMark ((a.mark + k) % 2 ^ 64) (Nat.mod_lt _ (by decide)))) (hBw3.all) (by rw [celC_len]; kernel_rfl)) ?_)))))
  refine wpF_step (op_store 30 w1.heap.size 0 30 (vA (celC (a.setMark ((a.mark + k) % 2 ^ 64) (Nat.mod_lt _ (by decide))))) (celC Cel.zero) (celC (a.setMark ((a.mark + k) % 2 ^ 64) (Nat.mod_lt _ (by decide)))) ((hBw2).chg hCw3 (fun hs => by have h : _ = _ := hs; omega)) (by rw [celC_len]; kernel_rfl) (by first | (simp; done) | (simp; omega)) (celC_one _) ?_)
  intro w4 hBw4 hCw4
  have hzw4 := hCw4.size
  rw [setFrom_all _ _ (by simp)] at hBw4
  refine wpF_run 1 [(7, (vI 0))] (wpF_end (then_code (wpC_ret (body_ret2 (show resVal Tryd.prog 32 _ _ (.cell 6 30) (vA (celC (a.setMark ((a.mark + k) % 2 ^ 64) (Nat.mod_lt _ (by decide))))) from ⟨⟨w1.heap.size, 0, none⟩, (by kernel_rfl), run_loadVar_agg (T := 30) (vs := celC (a.setMark ((a.mark + k) % 2 ^ 64) (Nat.mod_lt _ (by decide)))) (hBw4).all (by rw [celC_len]; kernel_rfl)⟩) (show resVal Tryd.prog 32 _ _ (.tmp 7) (vI 0) by (show _ = _; kernel_rfl)) ?_))))
  have hX1 : Ext w w4 := (Ext.own (Ext.own (hEw1.trans hEw2) hCw3 (by omega)) hCw4 (by omega))
  exact ⟨rfl, hX1⟩

end Go.Proofs.YthjplefmfjkhfaaDoor
