/- CsN2: what each function does, by its own code. No condition beyond those of each statement. -/
import Derived.Test.YtpcbhalagllhnaaDoorCsN1
namespace Go.Proofs.YtpcbhalagllhnaaDoor
open Go Go.RowKit Go.Cs
set_option maxRecDepth 100000
set_option linter.all false
set_option linter.unusedVariables false

theorem c_Empty (a : Nat) (b : Nat)  (w : World) (hp0 : a < 256) (hp1 : b < 2 ^ 32) :
    Calls Tryd.prog 19 #[(vB a), (vW b)] w (Ret fun r w' => r = (vA (nodC (Nod.mt a b))) ∧ Ext w w') := by
  refine calls_of (n := 8) (σ := [(0, (vB a)), (1, (vW b))]) Tryd.func19 rfl ?_
  refine wpC_seq (wpC_region (wpF_step (op_new (some 4) (Instr.alloc 41 true (.tuple #[])) (vP w.heap.size 0) (nodC Nod.zero) 41 ?_)))
  intro w1 hBw1 hEw1
  have hzw1 := hEw1.size; have hlw1 := hBw1.lt
  refine wpF_end (then_code (wpC_seq (wpC_region (wpF_run 2 [(6, (vW b)), (5, (vB a))] (wpF_step (op_v (some 7) (Instr.build 41 #[(0, (vB a)), (1, (vW b))]) (vA (nodC (Nod.mt a b))) ((run_build_nod a b (by omega) (by omega)).trans (congrArg (fun z : Nod => Result.ok (Value.agg (nodC z).toArray) _) (show (Nod.emp a b (by omega) (by omega) : Nod) = Nod.mt a b from Nod.mt_eq _ _))) ?_))))))
  refine wpF_step (op_store 41 w.heap.size 0 41 (vA (nodC (Nod.mt a b))) (nodC Nod.zero) (nodC (Nod.mt a b)) hBw1 (by rw [nodC_len]; kernel_rfl) (by first | (simp; done) | (simp; omega)) (nodC_one _) ?_)
  intro w2 hBw2 hCw2
  have hzw2 := hCw2.size
  rw [setFrom_all _ _ (by simp)] at hBw2
  exact wpF_end (then_code (wpC_ret (body_ret1 (show resVal Tryd.prog 8 _ _ (.cell 4 41) (vA (nodC (Nod.mt a b))) from ⟨⟨w.heap.size, 0, none⟩, (by kernel_rfl), run_loadVar_agg (T := 41) (vs := nodC (Nod.mt a b)) (hBw2).all (by rw [nodC_len]; kernel_rfl)⟩) (⟨rfl, (Ext.own hEw1 hCw2 (by omega))⟩))))

theorem c_with (x : Nod) (p : Int) (k : Nat)  (w : World)  :
    Calls Tryd.prog 51 #[(vA (nodC x)), (.int .i64 p), (vI k)] w (Ret fun r w' => r = (vI (withE x p k)) ∧ Ext w w') := by
  refine calls_of (n := 24) (σ := [(0, (vA (nodC x))), (1, (.int .i64 p)), (2, (vI k))]) Tryd.func51 rfl ?_
  have hlvx := x.hlv
  have hixx := x.hix
  have hcl := chkN_le x
  refine wpC_seq (wpC_region (wpF_step (op_new (some 3) (Instr.box 41 (vA (nodC x))) (vP w.heap.size 0) (nodC x) 41 ?_)))
  intro w1 hBw1 hEw1
  have hzw1 := hEw1.size; have hlw1 := hBw1.lt
  refine wpF_run 1 [(6, (vI 0))] (wpF_end (then_code (wpC_seq (wpC_seq (wpC_region (wpF_run 1 [(8, (.int .i64 p))] (wpF_step (op_split (some 9) (decide (p < ((0 : Nat) : Int))) (fun hc9 => ?_) (fun hc9 => ?_)))))))))
  · replace hc9 : p < ((0 : Nat) : Int) := by have := of_d_t hc9; omega
    refine wpF_run 4 [(13, vT), (12, undef), (11, undef), (10, vT)] (wpF_end (then_code (wpC_true (wpC_seq (wpC_region (wpF_run 1 [(6, (vI 1))] (wpF_end (then_code (wpC_ret ?_)))))))))
    exact then_ret (body_rets (vI 1) (⟨congrArg (fun z : Nat => vI z) (by unfold withE; (repeat' split) <;> first | rfl | omega), hEw1⟩))
  · replace hc9 : ¬ (p < ((0 : Nat) : Int)) := by have := of_d_f hc9; omega
    refine wpF_run 2 [(11, (.int .i64 p)), (10, vF)] (wpF_step (op_split (some 12) (decide (p ≥ ((4 : Nat) : Int))) (fun hc12 => ?_) (fun hc12 => ?_)))
    · replace hc12 : p ≥ ((4 : Nat) : Int) := by have := of_d_t hc12; omega
      refine wpF_run 1 [(13, vT)] (wpF_end (then_code (wpC_true (wpC_seq (wpC_region (wpF_run 1 [(6, (vI 1))] (wpF_end (then_code (wpC_ret ?_)))))))))
      exact then_ret (body_rets (vI 1) (⟨congrArg (fun z : Nat => vI z) (by unfold withE; (repeat' split) <;> first | rfl | omega), hEw1⟩))
    · replace hc12 : ¬ (p ≥ ((4 : Nat) : Int)) := by have := of_d_f hc12; omega
      refine wpF_run 1 [(13, vF)] (wpF_end (then_code (wpC_false (wpC_skip (then_code (wpC_seq (wpC_seq (wpC_region (wpF_step (op_v (some 14) (Instr.loadAt 41 (vP w.heap.size 0)) (vA (nodC x)) (rn_lda (vs := nodC x) (hBw1.all) (by rw [nodC_len]; kernel_rfl)) ?_))))))))))
      refine wpF_step (op_call (some 15) (c_NCheck x _) ?_)
      rintro _ w2 ⟨rfl, hEw2⟩
      have hzw2 := hEw2.size
      refine wpF_run 1 [(7, (vI (chkN x)))] (wpF_end (then_code (wpC_seq (wpC_region (wpF_run 1 [(16, (vI (chkN x)))] (wpF_step (op_split (some 17) ((((chkN x : Nat) : Int) != ((0 : Nat) : Int))) (fun hc17 => ?_) (fun hc17 => ?_))))))))
      · replace hc17 : ¬ (chkN x = 0) := by have := of_ne_t hc17; omega
        refine wpF_end (then_code (wpC_true (wpC_seq (wpC_region (wpF_run 2 [(6, (vI (chkN x))), (18, (vI (chkN x)))] (wpF_end (then_code (wpC_ret (then_ret ?_)))))))))
        exact body_rets (vI (chkN x)) (⟨congrArg (fun z : Nat => vI z) (by unfold withE; (repeat' split) <;> first | rfl | omega), (hEw1.trans hEw2)⟩)
      · replace hc17 : chkN x = 0 := by have := of_ne_f hc17; omega
        refine wpF_end (then_code (wpC_false (wpC_skip (then_code (wpC_seq (wpC_seq (wpC_region (wpF_run 1 [(19, (vP w.heap.size 0))] (wpF_step (op_v (some 20) (Instr.loadAt 5 (vP w.heap.size 0)) (vB x.lv) (rn_ld ((hBw1.ext hEw2).cell rfl)) ?_))))))))))
        refine wpF_step (op_call (some 21) (c_kind x.lv _) ?_)
        rintro _ _ ⟨rfl, rfl⟩
        refine wpF_run 1 [(22, (vI k))] (wpF_step (op_split (some 23) ((((min x.lv 1 : Nat) : Int) != ((k : Nat) : Int))) (fun hc23 => ?_) (fun hc23 => ?_)))
        · replace hc23 : ¬ (min x.lv 1 = k) := by have := of_ne_t hc23; omega
          refine wpF_end (then_code (wpC_true (wpC_seq (wpC_region (wpF_run 1 [(6, (vI 1))] (wpF_end (then_code (wpC_ret (then_ret ?_)))))))))
          exact body_rets (vI 1) (⟨congrArg (fun z : Nat => vI z) (by unfold withE; (repeat' split) <;> first | rfl | omega), (hEw1.trans hEw2)⟩)
        · replace hc23 : min x.lv 1 = k := by have := of_ne_f hc23; omega
          refine wpF_end (then_code (wpC_false (wpC_skip (then_code (wpC_seq (wpC_region (wpF_run 1 [(6, (vI 0))] (wpF_end (then_code ?_)))))))))
          exact wpC_ret (body_rets (vI 0) (⟨congrArg (fun z : Nat => vI z) (by unfold withE; (repeat' split) <;> first | rfl | omega), (hEw1.trans hEw2)⟩))

theorem c_WithRecord (x : Nod) (p : Nat) (q : Rec)  (w : World) (hp0 : withE x p 0 = 0) (hp1 : chkR q = 0) :
    Calls Tryd.prog 20 #[(vA (nodC x)), (vI p), (vA (recC q))] w (Ret fun r w' => r = (.tuple #[(vA (nodC (x.setR p q))), (vI 0)]) ∧ Ext w w') := by
  refine calls_of (n := 25) (σ := [(0, (vA (nodC x))), (1, (vI p)), (2, (vA (recC q)))]) Tryd.func20 rfl ?_
  have hlvx := x.hlv
  have hixx := x.hix
  obtain ⟨hw0, hw4, hwc, hwk⟩ := withE_ok hp0
  refine wpC_seq (wpC_region (wpF_step (op_new (some 3) (Instr.box 41 (vA (nodC x))) (vP w.heap.size 0) (nodC x) 41 ?_)))
  intro w1 hBw1 hEw1
  have hzw1 := hEw1.size; have hlw1 := hBw1.lt
  refine wpF_step (op_new (some 5) (Instr.box 35 (vA (recC q))) (vP w1.heap.size 0) (recC q) 35 ?_)
  intro w2 hBw2 hEw2
  have hzw2 := hEw2.size; have hlw2 := hBw2.lt
  refine wpF_step (op_new (some 6) (Instr.alloc 41 true (.tuple #[])) (vP w2.heap.size 0) (nodC Nod.zero) 41 ?_)
  intro w3 hBw3 hEw3
  have hzw3 := hEw3.size; have hlw3 := hBw3.lt
  refine wpF_run 1 [(7, (vI 0))] (wpF_end (then_code (wpC_seq (wpC_region (wpF_step (op_v (some 9) (Instr.loadAt 41 (vP w.heap.size 0)) (vA (nodC x)) (rn_lda (vs := nodC x) ((((hBw1.ext hEw2)).ext hEw3).all) (by rw [nodC_len]; kernel_rfl)) ?_))))))
  refine wpF_run 1 [(10, (vI p))] (wpF_step (op_call (some 11) (c_with x ((p : Nat) : Int) 0 _) ?_))
  rintro _ w4 ⟨rfl, hEw4⟩
  have hzw4 := hEw4.size
  refine wpF_run 1 [(8, (vI (withE x ((p : Nat) : Int) 0)))] (wpF_end (then_code (wpC_seq (wpC_seq (wpC_region (wpF_run 1 [(12, (vI (withE x ((p : Nat) : Int) 0)))] (wpF_step (op_b (some 13) (((withE x ((p : Nat) : Int) 0 : Nat) : Int) == ((0 : Nat) : Int)) true (cmpEqT (by omega)) ?_))))))))
  refine wpF_end (then_code (wpC_true (wpC_region (wpF_step (op_v (some 14) (Instr.loadAt 35 (vP w1.heap.size 0)) (vA (recC q)) (rn_lda (vs := recC q) ((((hBw2.ext hEw3)).ext hEw4).all) (by rw [recC_len]; kernel_rfl)) ?_)))))
  refine wpF_step (op_call (some 15) (c_CheckRecord q _) ?_)
  rintro _ w5 ⟨rfl, hEw5⟩
  have hzw5 := hEw5.size
  refine wpF_run 1 [(8, (vI (chkR q)))] (wpF_end (then_code (wpC_seq (wpC_seq (wpC_region (wpF_run 1 [(16, (vI (chkR q)))] (wpF_step (op_b (some 17) (((chkR q : Nat) : Int) != ((0 : Nat) : Int)) false (cmpNeF (by omega)) ?_))))))))
  refine wpF_end (then_code (wpC_false (wpC_skip (then_code (wpC_seq (wpC_region (wpF_run 1 [(20, (vI p))] ?_)))))))
  have hK1 := (((((hBw2.ext hEw3)).ext hEw4)).ext hEw5)
  refine wpF_step (op_v (some 21) (Instr.loadAt 35 (vP w1.heap.size 0)) (vA (recC q)) (rn_lda (vs := recC q) (hK1.all) (by rw [recC_len]; kernel_rfl)) ?_)
  refine wpF_run 1 [(22, (vP w.heap.size 2))] (wpF_step (op_v (some 23) (Instr.indexAt 36 (vP w.heap.size 2) (vI p)) (vP w.heap.size (2 + p * 35)) (rn_ixa (E := 35) (sz := 35) (m := 4) (by omega)) ?_))
  have hK2 := (((((((hBw1.ext hEw2)).ext hEw3)).ext hEw4)).ext hEw5)
  refine wpF_step (op_store 35 w.heap.size (2 + p * 35) 41 (vA (recC q)) (nodC x) (recC q) hK2 (by rw [recC_len]; kernel_rfl) (by first | (simp; done) | (simp; omega)) (recC_one _) ?_)
  have hK3 := (((((((hBw1.ext hEw2)).ext hEw3)).ext hEw4)).ext hEw5)
  intro w6 hBw6 hCw6
  have hzw6 := hCw6.size
  rw [show (setFrom (nodC x) (2 + p * 35) (recC q) : List Value) = nodC (x.setR p q) from nod_setR (by omega)] at hBw6
  refine wpF_end (then_code (wpC_seq (wpC_region (wpF_step (op_v (some 24) (Instr.loadAt 41 (vP w.heap.size 0)) (vA (nodC (x.setR p q))) (rn_lda (vs := nodC (x.setR p q)) (hBw6.all) (by rw [nodC_len]; kernel_rfl)) ?_)))))
  have hK4 := (((((hBw3.ext hEw4)).ext hEw5)).chg hCw6 (fun hs => by have h : _ = _ := hs; omega))
  refine wpF_step (op_store 41 w2.heap.size 0 41 (vA (nodC (x.setR p q))) (nodC Nod.zero) (nodC (x.setR p q)) hK4 (by rw [nodC_len]; kernel_rfl) (by first | (simp; done) | (simp; omega)) (nodC_one _) ?_)
  have hK5 := (((((hBw3.ext hEw4)).ext hEw5)).chg hCw6 (fun hs => by have h : _ = _ := hs; omega))
  intro w7 hBw7 hCw7
  have hzw7 := hCw7.size
  rw [setFrom_all _ _ (by simp)] at hBw7
  refine wpF_run 1 [(7, (vI 0))] (wpF_end (then_code (wpC_ret (body_ret2 (show resVal Tryd.prog 25 _ _ (.cell 6 41) (vA (nodC (x.setR p q))) from ⟨⟨w2.heap.size, 0, none⟩, (by kernel_rfl), run_loadVar_agg (T := 41) (vs := nodC (x.setR p q)) (hBw7).all (by rw [nodC_len]; kernel_rfl)⟩) (show resVal Tryd.prog 25 _ _ (.tmp 7) (vI 0) by (show _ = _; kernel_rfl)) ?_))))
  have hX1 : Ext w w7 := (Ext.own (Ext.own ((((hEw1.trans hEw2).trans hEw3).trans hEw4).trans hEw5) hCw6 (by omega)) hCw7 (by omega))
  exact ⟨rfl, hX1⟩

theorem c_WithRecordB1 (x : Nod) (p : Int) (q : Rec)  (w : World) (hp0 : withE x p 0 = 1) :
    Calls Tryd.prog 20 #[(vA (nodC x)), (.int .i64 p), (vA (recC q))] w (Ret fun r w' => r = (.tuple #[(vA (nodC Nod.zero)), (vI 1)]) ∧ Ext w w') := by
  refine calls_of (n := 25) (σ := [(0, (vA (nodC x))), (1, (.int .i64 p)), (2, (vA (recC q)))]) Tryd.func20 rfl ?_
  have hlvx := x.hlv
  have hixx := x.hix
  refine wpC_seq (wpC_region (wpF_step (op_new (some 3) (Instr.box 41 (vA (nodC x))) (vP w.heap.size 0) (nodC x) 41 ?_)))
  intro w1 hBw1 hEw1
  have hzw1 := hEw1.size; have hlw1 := hBw1.lt
  refine wpF_step (op_new (some 5) (Instr.box 35 (vA (recC q))) (vP w1.heap.size 0) (recC q) 35 ?_)
  intro w2 hBw2 hEw2
  have hzw2 := hEw2.size; have hlw2 := hBw2.lt
  refine wpF_step (op_new (some 6) (Instr.alloc 41 true (.tuple #[])) (vP w2.heap.size 0) (nodC Nod.zero) 41 ?_)
  intro w3 hBw3 hEw3
  have hzw3 := hEw3.size; have hlw3 := hBw3.lt
  refine wpF_run 1 [(7, (vI 0))] (wpF_end (then_code (wpC_seq (wpC_region (wpF_step (op_v (some 9) (Instr.loadAt 41 (vP w.heap.size 0)) (vA (nodC x)) (rn_lda (vs := nodC x) ((((hBw1.ext hEw2)).ext hEw3).all) (by rw [nodC_len]; kernel_rfl)) ?_))))))
  refine wpF_run 1 [(10, (.int .i64 p))] (wpF_step (op_call (some 11) (c_with x p 0 _) ?_))
  rintro _ w4 ⟨rfl, hEw4⟩
  have hzw4 := hEw4.size
  refine wpF_run 1 [(8, (vI (withE x p 0)))] (wpF_end (then_code (wpC_seq (wpC_seq (wpC_region (wpF_run 1 [(12, (vI (withE x p 0)))] (wpF_step (op_b (some 13) (((withE x p 0 : Nat) : Int) == ((0 : Nat) : Int)) false (cmpEqF (by omega)) ?_))))))))
  refine wpF_end (then_code (wpC_false (wpC_skip (then_code (wpC_seq (wpC_seq (wpC_region (wpF_run 1 [(16, (vI (withE x p 0)))] (wpF_step (op_b (some 17) (((withE x p 0 : Nat) : Int) != ((0 : Nat) : Int)) true (cmpNeT (by omega)) ?_))))))))))
  refine wpF_end (then_code (wpC_true (wpC_seq (wpC_region (wpF_run 2 [(19, (vI (withE x p 0))), (18, (vA (nodC Nod.zero)))] (wpF_step (op_store 41 w2.heap.size 0 41 (vA (nodC Nod.zero)) (nodC Nod.zero) (nodC Nod.zero) (hBw3.ext hEw4) (by rw [nodC_len]; kernel_rfl) (by first | (simp; done) | (simp; omega)) (nodC_one _) ?_)))))))
  intro w5 hBw5 hCw5
  have hzw5 := hCw5.size
  rw [setFrom_all _ _ (by simp)] at hBw5
  refine wpF_run 1 [(7, (vI (withE x p 0)))] (wpF_end (then_code (wpC_ret (then_ret (body_ret2 (show resVal Tryd.prog 25 _ _ (.cell 6 41) (vA (nodC Nod.zero)) from ⟨⟨w2.heap.size, 0, none⟩, (by kernel_rfl), run_loadVar_agg (T := 41) (vs := nodC Nod.zero) (hBw5).all (by rw [nodC_len]; kernel_rfl)⟩) (show resVal Tryd.prog 25 _ _ (.tmp 7) (vI (withE x p 0)) by (show _ = _; kernel_rfl)) ?_)))))
  have hX1 : Ext w w5 := (Ext.own (((hEw1.trans hEw2).trans hEw3).trans hEw4) hCw5 (by omega))
  rw [hp0]; exact ⟨rfl, hX1⟩

theorem c_WithRecordB2 (x : Nod) (p : Int) (q : Rec)  (w : World) (hp0 : withE x p 0 = 0) (hp1 : chkR q = 1) :
    Calls Tryd.prog 20 #[(vA (nodC x)), (.int .i64 p), (vA (recC q))] w (Ret fun r w' => r = (.tuple #[(vA (nodC Nod.zero)), (vI 1)]) ∧ Ext w w') := by
  refine calls_of (n := 25) (σ := [(0, (vA (nodC x))), (1, (.int .i64 p)), (2, (vA (recC q)))]) Tryd.func20 rfl ?_
  have hlvx := x.hlv
  have hixx := x.hix
  refine wpC_seq (wpC_region (wpF_step (op_new (some 3) (Instr.box 41 (vA (nodC x))) (vP w.heap.size 0) (nodC x) 41 ?_)))
  intro w1 hBw1 hEw1
  have hzw1 := hEw1.size; have hlw1 := hBw1.lt
  refine wpF_step (op_new (some 5) (Instr.box 35 (vA (recC q))) (vP w1.heap.size 0) (recC q) 35 ?_)
  intro w2 hBw2 hEw2
  have hzw2 := hEw2.size; have hlw2 := hBw2.lt
  refine wpF_step (op_new (some 6) (Instr.alloc 41 true (.tuple #[])) (vP w2.heap.size 0) (nodC Nod.zero) 41 ?_)
  intro w3 hBw3 hEw3
  have hzw3 := hEw3.size; have hlw3 := hBw3.lt
  refine wpF_run 1 [(7, (vI 0))] (wpF_end (then_code (wpC_seq (wpC_region (wpF_step (op_v (some 9) (Instr.loadAt 41 (vP w.heap.size 0)) (vA (nodC x)) (rn_lda (vs := nodC x) ((((hBw1.ext hEw2)).ext hEw3).all) (by rw [nodC_len]; kernel_rfl)) ?_))))))
  refine wpF_run 1 [(10, (.int .i64 p))] (wpF_step (op_call (some 11) (c_with x p 0 _) ?_))
  rintro _ w4 ⟨rfl, hEw4⟩
  have hzw4 := hEw4.size
  refine wpF_run 1 [(8, (vI (withE x p 0)))] (wpF_end (then_code (wpC_seq (wpC_seq (wpC_region (wpF_run 1 [(12, (vI (withE x p 0)))] (wpF_step (op_b (some 13) (((withE x p 0 : Nat) : Int) == ((0 : Nat) : Int)) true (cmpEqT (by omega)) ?_))))))))
  refine wpF_end (then_code (wpC_true (wpC_region (wpF_step (op_v (some 14) (Instr.loadAt 35 (vP w1.heap.size 0)) (vA (recC q)) (rn_lda (vs := recC q) ((((hBw2.ext hEw3)).ext hEw4).all) (by rw [recC_len]; kernel_rfl)) ?_)))))
  refine wpF_step (op_call (some 15) (c_CheckRecord q _) ?_)
  rintro _ w5 ⟨rfl, hEw5⟩
  have hzw5 := hEw5.size
  refine wpF_run 1 [(8, (vI (chkR q)))] (wpF_end (then_code (wpC_seq (wpC_seq (wpC_region (wpF_run 1 [(16, (vI (chkR q)))] (wpF_step (op_b (some 17) (((chkR q : Nat) : Int) != ((0 : Nat) : Int)) true (cmpNeT (by omega)) ?_))))))))
  refine wpF_end (then_code (wpC_true (wpC_seq (wpC_region (wpF_run 2 [(19, (vI (chkR q))), (18, (vA (nodC Nod.zero)))] (wpF_step (op_store 41 w2.heap.size 0 41 (vA (nodC Nod.zero)) (nodC Nod.zero) (nodC Nod.zero) (((hBw3.ext hEw4)).ext hEw5) (by rw [nodC_len]; kernel_rfl) (by first | (simp; done) | (simp; omega)) (nodC_one _) ?_)))))))
  intro w6 hBw6 hCw6
  have hzw6 := hCw6.size
  rw [setFrom_all _ _ (by simp)] at hBw6
  refine wpF_run 1 [(7, (vI (chkR q)))] (wpF_end (then_code (wpC_ret (then_ret (body_ret2 (show resVal Tryd.prog 25 _ _ (.cell 6 41) (vA (nodC Nod.zero)) from ⟨⟨w2.heap.size, 0, none⟩, (by kernel_rfl), run_loadVar_agg (T := 41) (vs := nodC Nod.zero) (hBw6).all (by rw [nodC_len]; kernel_rfl)⟩) (show resVal Tryd.prog 25 _ _ (.tmp 7) (vI (chkR q)) by (show _ = _; kernel_rfl)) ?_)))))
  have hX1 : Ext w w6 := (Ext.own ((((hEw1.trans hEw2).trans hEw3).trans hEw4).trans hEw5) hCw6 (by omega))
  rw [hp1]; exact ⟨rfl, hX1⟩

theorem c_WithRecordBad (x : Nod) (p : Int) (q : Rec)  (w : World) (hp0 : ¬ (withE x p 0 = 0 ∧ chkR q = 0)) :
    Calls Tryd.prog 20 #[(vA (nodC x)), (.int .i64 p), (vA (recC q))] w (Ret fun r w' => r = (.tuple #[(vA (nodC Nod.zero)), (vI 1)]) ∧ Ext w w') := by
  rcases withE_le x p 0 with h | h
  · rcases chkR_le q with h2 | h2
    · exact absurd ⟨h, h2⟩ hp0
    · exact c_WithRecordB2 x p q w h h2
  · exact c_WithRecordB1 x p q w h

theorem c_WithEntry (x : Nod) (p : Nat) (q : Ent)  (w : World) (hp0 : withE x p 1 = 0) (hp1 : chkE q = 0) :
    Calls Tryd.prog 23 #[(vA (nodC x)), (vI p), (vA (entC q))] w (Ret fun r w' => r = (.tuple #[(vA (nodC (x.setE p q))), (vI 0)]) ∧ Ext w w') := by
  refine calls_of (n := 25) (σ := [(0, (vA (nodC x))), (1, (vI p)), (2, (vA (entC q)))]) Tryd.func23 rfl ?_
  have hlvx := x.hlv
  have hixx := x.hix
  obtain ⟨hw0, hw4, hwc, hwk⟩ := withE_ok hp0
  refine wpC_seq (wpC_region (wpF_step (op_new (some 3) (Instr.box 41 (vA (nodC x))) (vP w.heap.size 0) (nodC x) 41 ?_)))
  intro w1 hBw1 hEw1
  have hzw1 := hEw1.size; have hlw1 := hBw1.lt
  refine wpF_step (op_new (some 5) (Instr.box 38 (vA (entC q))) (vP w1.heap.size 0) (entC q) 38 ?_)
  intro w2 hBw2 hEw2
  have hzw2 := hEw2.size; have hlw2 := hBw2.lt
  refine wpF_step (op_new (some 6) (Instr.alloc 41 true (.tuple #[])) (vP w2.heap.size 0) (nodC Nod.zero) 41 ?_)
  intro w3 hBw3 hEw3
  have hzw3 := hEw3.size; have hlw3 := hBw3.lt
  refine wpF_run 1 [(7, (vI 0))] (wpF_end (then_code (wpC_seq (wpC_region (wpF_step (op_v (some 9) (Instr.loadAt 41 (vP w.heap.size 0)) (vA (nodC x)) (rn_lda (vs := nodC x) ((((hBw1.ext hEw2)).ext hEw3).all) (by rw [nodC_len]; kernel_rfl)) ?_))))))
  refine wpF_run 1 [(10, (vI p))] (wpF_step (op_call (some 11) (c_with x ((p : Nat) : Int) 1 _) ?_))
  rintro _ w4 ⟨rfl, hEw4⟩
  have hzw4 := hEw4.size
  refine wpF_run 1 [(8, (vI (withE x ((p : Nat) : Int) 1)))] (wpF_end (then_code (wpC_seq (wpC_seq (wpC_region (wpF_run 1 [(12, (vI (withE x ((p : Nat) : Int) 1)))] (wpF_step (op_b (some 13) (((withE x ((p : Nat) : Int) 1 : Nat) : Int) == ((0 : Nat) : Int)) true (cmpEqT (by omega)) ?_))))))))
  refine wpF_end (then_code (wpC_true (wpC_region (wpF_step (op_v (some 14) (Instr.loadAt 38 (vP w1.heap.size 0)) (vA (entC q)) (rn_lda (vs := entC q) ((((hBw2.ext hEw3)).ext hEw4).all) (by rw [entC_len]; kernel_rfl)) ?_)))))
  refine wpF_step (op_call (some 15) (c_CheckEntry q _) ?_)
  rintro _ w5 ⟨rfl, hEw5⟩
  have hzw5 := hEw5.size
  refine wpF_run 1 [(8, (vI (chkE q)))] (wpF_end (then_code (wpC_seq (wpC_seq (wpC_region (wpF_run 1 [(16, (vI (chkE q)))] (wpF_step (op_b (some 17) (((chkE q : Nat) : Int) != ((0 : Nat) : Int)) false (cmpNeF (by omega)) ?_))))))))
  refine wpF_end (then_code (wpC_false (wpC_skip (then_code (wpC_seq (wpC_region (wpF_run 1 [(20, (vI p))] ?_)))))))
  have hK1 := (((((hBw2.ext hEw3)).ext hEw4)).ext hEw5)
  refine wpF_step (op_v (some 21) (Instr.loadAt 38 (vP w1.heap.size 0)) (vA (entC q)) (rn_lda (vs := entC q) (hK1.all) (by rw [entC_len]; kernel_rfl)) ?_)
  refine wpF_run 1 [(22, (vP w.heap.size 142))] (wpF_step (op_v (some 23) (Instr.indexAt 39 (vP w.heap.size 142) (vI p)) (vP w.heap.size (142 + p * 33)) (rn_ixa (E := 38) (sz := 33) (m := 4) (by omega)) ?_))
  have hK2 := (((((((hBw1.ext hEw2)).ext hEw3)).ext hEw4)).ext hEw5)
  refine wpF_step (op_store 38 w.heap.size (142 + p * 33) 41 (vA (entC q)) (nodC x) (entC q) hK2 (by rw [entC_len]; kernel_rfl) (by first | (simp; done) | (simp; omega)) (entC_one _) ?_)
  have hK3 := (((((((hBw1.ext hEw2)).ext hEw3)).ext hEw4)).ext hEw5)
  intro w6 hBw6 hCw6
  have hzw6 := hCw6.size
  rw [show (setFrom (nodC x) (142 + p * 33) (entC q) : List Value) = nodC (x.setE p q) from nod_setE (by omega)] at hBw6
  refine wpF_end (then_code (wpC_seq (wpC_region (wpF_step (op_v (some 24) (Instr.loadAt 41 (vP w.heap.size 0)) (vA (nodC (x.setE p q))) (rn_lda (vs := nodC (x.setE p q)) (hBw6.all) (by rw [nodC_len]; kernel_rfl)) ?_)))))
  have hK4 := (((((hBw3.ext hEw4)).ext hEw5)).chg hCw6 (fun hs => by have h : _ = _ := hs; omega))
  refine wpF_step (op_store 41 w2.heap.size 0 41 (vA (nodC (x.setE p q))) (nodC Nod.zero) (nodC (x.setE p q)) hK4 (by rw [nodC_len]; kernel_rfl) (by first | (simp; done) | (simp; omega)) (nodC_one _) ?_)
  have hK5 := (((((hBw3.ext hEw4)).ext hEw5)).chg hCw6 (fun hs => by have h : _ = _ := hs; omega))
  intro w7 hBw7 hCw7
  have hzw7 := hCw7.size
  rw [setFrom_all _ _ (by simp)] at hBw7
  refine wpF_run 1 [(7, (vI 0))] (wpF_end (then_code (wpC_ret (body_ret2 (show resVal Tryd.prog 25 _ _ (.cell 6 41) (vA (nodC (x.setE p q))) from ⟨⟨w2.heap.size, 0, none⟩, (by kernel_rfl), run_loadVar_agg (T := 41) (vs := nodC (x.setE p q)) (hBw7).all (by rw [nodC_len]; kernel_rfl)⟩) (show resVal Tryd.prog 25 _ _ (.tmp 7) (vI 0) by (show _ = _; kernel_rfl)) ?_))))
  have hX1 : Ext w w7 := (Ext.own (Ext.own ((((hEw1.trans hEw2).trans hEw3).trans hEw4).trans hEw5) hCw6 (by omega)) hCw7 (by omega))
  exact ⟨rfl, hX1⟩

theorem c_WithEntryB1 (x : Nod) (p : Int) (q : Ent)  (w : World) (hp0 : withE x p 1 = 1) :
    Calls Tryd.prog 23 #[(vA (nodC x)), (.int .i64 p), (vA (entC q))] w (Ret fun r w' => r = (.tuple #[(vA (nodC Nod.zero)), (vI 1)]) ∧ Ext w w') := by
  refine calls_of (n := 25) (σ := [(0, (vA (nodC x))), (1, (.int .i64 p)), (2, (vA (entC q)))]) Tryd.func23 rfl ?_
  have hlvx := x.hlv
  have hixx := x.hix
  refine wpC_seq (wpC_region (wpF_step (op_new (some 3) (Instr.box 41 (vA (nodC x))) (vP w.heap.size 0) (nodC x) 41 ?_)))
  intro w1 hBw1 hEw1
  have hzw1 := hEw1.size; have hlw1 := hBw1.lt
  refine wpF_step (op_new (some 5) (Instr.box 38 (vA (entC q))) (vP w1.heap.size 0) (entC q) 38 ?_)
  intro w2 hBw2 hEw2
  have hzw2 := hEw2.size; have hlw2 := hBw2.lt
  refine wpF_step (op_new (some 6) (Instr.alloc 41 true (.tuple #[])) (vP w2.heap.size 0) (nodC Nod.zero) 41 ?_)
  intro w3 hBw3 hEw3
  have hzw3 := hEw3.size; have hlw3 := hBw3.lt
  refine wpF_run 1 [(7, (vI 0))] (wpF_end (then_code (wpC_seq (wpC_region (wpF_step (op_v (some 9) (Instr.loadAt 41 (vP w.heap.size 0)) (vA (nodC x)) (rn_lda (vs := nodC x) ((((hBw1.ext hEw2)).ext hEw3).all) (by rw [nodC_len]; kernel_rfl)) ?_))))))
  refine wpF_run 1 [(10, (.int .i64 p))] (wpF_step (op_call (some 11) (c_with x p 1 _) ?_))
  rintro _ w4 ⟨rfl, hEw4⟩
  have hzw4 := hEw4.size
  refine wpF_run 1 [(8, (vI (withE x p 1)))] (wpF_end (then_code (wpC_seq (wpC_seq (wpC_region (wpF_run 1 [(12, (vI (withE x p 1)))] (wpF_step (op_b (some 13) (((withE x p 1 : Nat) : Int) == ((0 : Nat) : Int)) false (cmpEqF (by omega)) ?_))))))))
  refine wpF_end (then_code (wpC_false (wpC_skip (then_code (wpC_seq (wpC_seq (wpC_region (wpF_run 1 [(16, (vI (withE x p 1)))] (wpF_step (op_b (some 17) (((withE x p 1 : Nat) : Int) != ((0 : Nat) : Int)) true (cmpNeT (by omega)) ?_))))))))))
  refine wpF_end (then_code (wpC_true (wpC_seq (wpC_region (wpF_run 2 [(19, (vI (withE x p 1))), (18, (vA (nodC Nod.zero)))] (wpF_step (op_store 41 w2.heap.size 0 41 (vA (nodC Nod.zero)) (nodC Nod.zero) (nodC Nod.zero) (hBw3.ext hEw4) (by rw [nodC_len]; kernel_rfl) (by first | (simp; done) | (simp; omega)) (nodC_one _) ?_)))))))
  intro w5 hBw5 hCw5
  have hzw5 := hCw5.size
  rw [setFrom_all _ _ (by simp)] at hBw5
  refine wpF_run 1 [(7, (vI (withE x p 1)))] (wpF_end (then_code (wpC_ret (then_ret (body_ret2 (show resVal Tryd.prog 25 _ _ (.cell 6 41) (vA (nodC Nod.zero)) from ⟨⟨w2.heap.size, 0, none⟩, (by kernel_rfl), run_loadVar_agg (T := 41) (vs := nodC Nod.zero) (hBw5).all (by rw [nodC_len]; kernel_rfl)⟩) (show resVal Tryd.prog 25 _ _ (.tmp 7) (vI (withE x p 1)) by (show _ = _; kernel_rfl)) ?_)))))
  have hX1 : Ext w w5 := (Ext.own (((hEw1.trans hEw2).trans hEw3).trans hEw4) hCw5 (by omega))
  rw [hp0]; exact ⟨rfl, hX1⟩

theorem c_WithEntryB2 (x : Nod) (p : Int) (q : Ent)  (w : World) (hp0 : withE x p 1 = 0) (hp1 : chkE q = 1) :
    Calls Tryd.prog 23 #[(vA (nodC x)), (.int .i64 p), (vA (entC q))] w (Ret fun r w' => r = (.tuple #[(vA (nodC Nod.zero)), (vI 1)]) ∧ Ext w w') := by
  refine calls_of (n := 25) (σ := [(0, (vA (nodC x))), (1, (.int .i64 p)), (2, (vA (entC q)))]) Tryd.func23 rfl ?_
  have hlvx := x.hlv
  have hixx := x.hix
  refine wpC_seq (wpC_region (wpF_step (op_new (some 3) (Instr.box 41 (vA (nodC x))) (vP w.heap.size 0) (nodC x) 41 ?_)))
  intro w1 hBw1 hEw1
  have hzw1 := hEw1.size; have hlw1 := hBw1.lt
  refine wpF_step (op_new (some 5) (Instr.box 38 (vA (entC q))) (vP w1.heap.size 0) (entC q) 38 ?_)
  intro w2 hBw2 hEw2
  have hzw2 := hEw2.size; have hlw2 := hBw2.lt
  refine wpF_step (op_new (some 6) (Instr.alloc 41 true (.tuple #[])) (vP w2.heap.size 0) (nodC Nod.zero) 41 ?_)
  intro w3 hBw3 hEw3
  have hzw3 := hEw3.size; have hlw3 := hBw3.lt
  refine wpF_run 1 [(7, (vI 0))] (wpF_end (then_code (wpC_seq (wpC_region (wpF_step (op_v (some 9) (Instr.loadAt 41 (vP w.heap.size 0)) (vA (nodC x)) (rn_lda (vs := nodC x) ((((hBw1.ext hEw2)).ext hEw3).all) (by rw [nodC_len]; kernel_rfl)) ?_))))))
  refine wpF_run 1 [(10, (.int .i64 p))] (wpF_step (op_call (some 11) (c_with x p 1 _) ?_))
  rintro _ w4 ⟨rfl, hEw4⟩
  have hzw4 := hEw4.size
  refine wpF_run 1 [(8, (vI (withE x p 1)))] (wpF_end (then_code (wpC_seq (wpC_seq (wpC_region (wpF_run 1 [(12, (vI (withE x p 1)))] (wpF_step (op_b (some 13) (((withE x p 1 : Nat) : Int) == ((0 : Nat) : Int)) true (cmpEqT (by omega)) ?_))))))))
  refine wpF_end (then_code (wpC_true (wpC_region (wpF_step (op_v (some 14) (Instr.loadAt 38 (vP w1.heap.size 0)) (vA (entC q)) (rn_lda (vs := entC q) ((((hBw2.ext hEw3)).ext hEw4).all) (by rw [entC_len]; kernel_rfl)) ?_)))))
  refine wpF_step (op_call (some 15) (c_CheckEntry q _) ?_)
  rintro _ w5 ⟨rfl, hEw5⟩
  have hzw5 := hEw5.size
  refine wpF_run 1 [(8, (vI (chkE q)))] (wpF_end (then_code (wpC_seq (wpC_seq (wpC_region (wpF_run 1 [(16, (vI (chkE q)))] (wpF_step (op_b (some 17) (((chkE q : Nat) : Int) != ((0 : Nat) : Int)) true (cmpNeT (by omega)) ?_))))))))
  refine wpF_end (then_code (wpC_true (wpC_seq (wpC_region (wpF_run 2 [(19, (vI (chkE q))), (18, (vA (nodC Nod.zero)))] (wpF_step (op_store 41 w2.heap.size 0 41 (vA (nodC Nod.zero)) (nodC Nod.zero) (nodC Nod.zero) (((hBw3.ext hEw4)).ext hEw5) (by rw [nodC_len]; kernel_rfl) (by first | (simp; done) | (simp; omega)) (nodC_one _) ?_)))))))
  intro w6 hBw6 hCw6
  have hzw6 := hCw6.size
  rw [setFrom_all _ _ (by simp)] at hBw6
  refine wpF_run 1 [(7, (vI (chkE q)))] (wpF_end (then_code (wpC_ret (then_ret (body_ret2 (show resVal Tryd.prog 25 _ _ (.cell 6 41) (vA (nodC Nod.zero)) from ⟨⟨w2.heap.size, 0, none⟩, (by kernel_rfl), run_loadVar_agg (T := 41) (vs := nodC Nod.zero) (hBw6).all (by rw [nodC_len]; kernel_rfl)⟩) (show resVal Tryd.prog 25 _ _ (.tmp 7) (vI (chkE q)) by (show _ = _; kernel_rfl)) ?_)))))
  have hX1 : Ext w w6 := (Ext.own ((((hEw1.trans hEw2).trans hEw3).trans hEw4).trans hEw5) hCw6 (by omega))
  rw [hp1]; exact ⟨rfl, hX1⟩

theorem c_WithEntryBad (x : Nod) (p : Int) (q : Ent)  (w : World) (hp0 : ¬ (withE x p 1 = 0 ∧ chkE q = 0)) :
    Calls Tryd.prog 23 #[(vA (nodC x)), (.int .i64 p), (vA (entC q))] w (Ret fun r w' => r = (.tuple #[(vA (nodC Nod.zero)), (vI 1)]) ∧ Ext w w') := by
  rcases withE_le x p 1 with h | h
  · rcases chkE_le q with h2 | h2
    · exact absurd ⟨h, h2⟩ hp0
    · exact c_WithEntryB2 x p q w h h2
  · exact c_WithEntryB1 x p q w h

theorem c_Used (x : Nod)  (w : World)  :
    Calls Tryd.prog 22 #[(vA (nodC x))] w (Ret fun r w' => r = (vI (usd x 4)) ∧ Ext w w') := by
  refine calls_of (n := 36) (σ := [(0, (vA (nodC x)))]) Tryd.func22 rfl ?_
  refine wpC_seq (wpC_region (wpF_step (op_new (some 1) (Instr.box 41 (vA (nodC x))) (vP w.heap.size 0) (nodC x) 41 ?_)))
  intro w1 hBw1 hEw1
  have hzw1 := hEw1.size; have hlw1 := hBw1.lt
  refine wpF_run 1 [(2, (vI 0))] (wpF_end (then_code (wpC_seq (wpC_region (wpF_run 1 [(3, (vI 0))] (wpF_end (then_code (wpC_seq (wpC_seq ?_)))))))))
  refine wpC_region (wpF_run 1 [(5, (vI 0))] (wpF_end (then_code (wpC_block (wpC_loop (X := Nat) (fun i => [(3, (vI (usd x i))), (5, (vI i))]) [4, 6, 7, 8, 9, 10, 11, 12, 13, 14, 15, 16, 17, 18, 19, 20, 21, 22, 23, 24, 25, 26, 27, 28, 29, 30, 31, 32, 33, 34] (fun i w2 => i ≤ 4 ∧ Ext w1 w2) (fun i => 4 - i) 0 (by kernel_rfl) ⟨by omega, (Ext.refl _)⟩ ?_)))))
  rintro i dw2 w2 ⟨hi, hEl⟩
  have hzl := hEl.size
  have hul := usd_le x i
  refine wpC_seq (wpC_region (wpF_step (op_split (some 6) (decide (((i : Nat) : Int) < ((4 : Nat) : Int))) (fun hc6 => ?_) (fun hc6 => ?_))))
  · replace hc6 : i < 4 := by have := of_d_t hc6; omega
    refine wpF_end (then_code (wpC_seq (wpC_true (wpC_skip (then_code (wpC_seq (wpC_block (wpC_seq (wpC_region ?_)))))))))
    refine wpF_run 2 [(4, (vI i)), (7, (vI i))] (wpF_end (then_code (wpC_seq (wpC_region (wpF_run 1 [(8, (vP w.heap.size 0))] (wpF_step (op_v (some 9) (Instr.loadAt 5 (vP w.heap.size 0)) (vB x.lv) (rn_ld ((hBw1.ext hEl).cell rfl)) ?_)))))))
    refine wpF_step (op_split (some 10) ((((x.lv : Nat) : Int) == ((0 : Nat) : Int))) (fun hc10 => ?_) (fun hc10 => ?_))
    · replace hc10 : x.lv = 0 := by have := of_eq_t hc10; omega
      refine wpF_run 3 [(13, (vP w.heap.size 2)), (12, (vI i)), (11, vT)] (wpF_step (op_v (some 14) (Instr.indexAt 36 (vP w.heap.size 2) (vI i)) (vP w.heap.size (2 + i * 35)) (rn_ixa (E := 35) (sz := 35) (m := 4) (by omega)) ?_))
      refine wpF_run 1 [(15, (vP w.heap.size (2 + i * 35)))] (wpF_step (op_v (some 16) (Instr.loadAt 5 (vP w.heap.size (2 + i * 35))) (vB ((x.rs.get i).st)) (rn_ld ((hBw1.ext hEl).cell (nod_rst (by omega)))) ?_))
      refine wpF_step (op_split (some 17) (((((x.rs.get i).st : Nat) : Int) != ((0 : Nat) : Int))) (fun hc17 => ?_) (fun hc17 => ?_))
      · replace hc17 : ¬ ((x.rs.get i).st = 0) := by have := of_ne_t hc17; omega
        refine wpF_run 14 [(31, vT), (30, undef), (29, undef), (28, undef), (27, undef), (26, undef), (25, undef), (24, undef), (23, undef), (22, undef), (21, undef), (20, undef), (19, vT), (18, vT)] (wpF_end (then_code (wpC_true (wpC_region (wpF_run 1 [(32, (vI (usd x i)))] (wpF_step (op_in (some 33) .i64 (IntKind.i64.wrap (((usd x i : Nat) : Int) + ((1 : Nat) : Int))) (usd x i + 1) (wrapS (by omega) (by omega) (by omega)) ?_)))))))
        refine wpF_run 1 [(3, (vI (usd x i + 1)))] (wpF_end (inBlock_normal (then_code (wpC_region (wpF_step (op_in (some 34) .i64 (IntKind.i64.wrap (((i : Nat) : Int) + ((1 : Nat) : Int))) (i + 1) (wrapS (by omega) (by omega) (by omega)) ?_))))))
        refine wpF_run 1 [(5, (vI (i + 1)))] (wpF_end (then_normal ?_))
        rw [show usd x i + 1 = usd x (i + 1) from by rw [usd]; (repeat' split) <;> omega]
        refine endR_mk (i + 1) ?_ ?_
        · exact ⟨by omega, hEl⟩
        · first | omega | (dsimp only; omega)
      · replace hc17 : (x.rs.get i).st = 0 := by have := of_ne_f hc17; omega
        refine wpF_run 3 [(20, (vP w.heap.size 0)), (19, vF), (18, vF)] (wpF_step (op_v (some 21) (Instr.loadAt 5 (vP w.heap.size 0)) (vB x.lv) (rn_ld ((hBw1.ext hEl).cell rfl)) ?_))
        refine wpF_step (op_b (some 22) (((x.lv : Nat) : Int) != ((0 : Nat) : Int)) false (cmpNeF (by omega)) ?_)
        refine wpF_run 9 [(31, vF), (30, vF), (29, undef), (28, undef), (27, undef), (26, undef), (25, undef), (24, undef), (23, vF)] (wpF_end (then_code (wpC_false (wpC_skip (inBlock_normal (then_code (wpC_region (wpF_step (op_in (some 34) .i64 (IntKind.i64.wrap (((i : Nat) : Int) + ((1 : Nat) : Int))) (i + 1) (wrapS (by omega) (by omega) (by omega)) ?_)))))))))
        refine wpF_run 1 [(5, (vI (i + 1)))] (wpF_end (then_normal ?_))
        rw [show usd x i = usd x (i + 1) from by rw [usd]; (repeat' split) <;> omega]
        refine endR_mk (i + 1) ?_ ?_
        · exact ⟨by omega, hEl⟩
        · first | omega | (dsimp only; omega)
    · replace hc10 : ¬ (x.lv = 0) := by have := of_eq_f hc10; omega
      refine wpF_run 10 [(20, (vP w.heap.size 0)), (19, vF), (18, vF), (17, undef), (16, undef), (15, undef), (14, undef), (13, undef), (12, undef), (11, vF)] (wpF_step (op_v (some 21) (Instr.loadAt 5 (vP w.heap.size 0)) (vB x.lv) (rn_ld ((hBw1.ext hEl).cell rfl)) ?_))
      refine wpF_step (op_b (some 22) (((x.lv : Nat) : Int) != ((0 : Nat) : Int)) true (cmpNeT (by omega)) ?_)
      refine wpF_run 3 [(25, (vP w.heap.size 142)), (24, (vI i)), (23, vT)] (wpF_step (op_v (some 26) (Instr.indexAt 39 (vP w.heap.size 142) (vI i)) (vP w.heap.size (142 + i * 33)) (rn_ixa (E := 38) (sz := 33) (m := 4) (by omega)) ?_))
      refine wpF_run 1 [(27, (vP w.heap.size (142 + i * 33)))] (wpF_step (op_v (some 28) (Instr.loadAt 5 (vP w.heap.size (142 + i * 33))) (vB ((x.es.get i).st)) (rn_ld ((hBw1.ext hEl).cell (nod_est (by omega)))) ?_))
      refine wpF_step (op_split (some 29) (((((x.es.get i).st : Nat) : Int) != ((0 : Nat) : Int))) (fun hc29 => ?_) (fun hc29 => ?_))
      · replace hc29 : ¬ ((x.es.get i).st = 0) := by have := of_ne_t hc29; omega
        refine wpF_run 2 [(31, vT), (30, vT)] (wpF_end (then_code (wpC_true (wpC_region (wpF_run 1 [(32, (vI (usd x i)))] (wpF_step (op_in (some 33) .i64 (IntKind.i64.wrap (((usd x i : Nat) : Int) + ((1 : Nat) : Int))) (usd x i + 1) (wrapS (by omega) (by omega) (by omega)) ?_)))))))
        refine wpF_run 1 [(3, (vI (usd x i + 1)))] (wpF_end (inBlock_normal (then_code (wpC_region (wpF_step (op_in (some 34) .i64 (IntKind.i64.wrap (((i : Nat) : Int) + ((1 : Nat) : Int))) (i + 1) (wrapS (by omega) (by omega) (by omega)) ?_))))))
        refine wpF_run 1 [(5, (vI (i + 1)))] (wpF_end (then_normal ?_))
        rw [show usd x i + 1 = usd x (i + 1) from by rw [usd]; (repeat' split) <;> omega]
        refine endR_mk (i + 1) ?_ ?_
        · exact ⟨by omega, hEl⟩
        · first | omega | (dsimp only; omega)
      · replace hc29 : (x.es.get i).st = 0 := by have := of_ne_f hc29; omega
        refine wpF_run 2 [(31, vF), (30, vF)] (wpF_end (then_code (wpC_false (wpC_skip (inBlock_normal (then_code (wpC_region (wpF_step (op_in (some 34) .i64 (IntKind.i64.wrap (((i : Nat) : Int) + ((1 : Nat) : Int))) (i + 1) (wrapS (by omega) (by omega) (by omega)) ?_)))))))))
        refine wpF_run 1 [(5, (vI (i + 1)))] (wpF_end (then_normal ?_))
        rw [show usd x i = usd x (i + 1) from by rw [usd]; (repeat' split) <;> omega]
        refine endR_mk (i + 1) ?_ ?_
        · exact ⟨by omega, hEl⟩
        · first | omega | (dsimp only; omega)
  · replace hc6 : ¬ (i < 4) := by have := of_d_f hc6; omega
    refine wpF_end (then_code (wpC_seq (wpC_false (wpC_exit (then_exit (then_exit (inBlock_exit (then_code (wpC_seq ?_)))))))))
    refine wpC_region (wpF_run 2 [(2, (vI (usd x i))), (35, (vI (usd x i)))] (wpF_end (then_code (wpC_ret (body_rets (vI (usd x i)) ?_)))))
    obtain rfl : i = 4 := by omega
    exact ⟨rfl, (hEw1.trans hEl)⟩

theorem c_mkD (sd : Nat)  (w : World) (hp0 : sd < 256) :
    Calls Tryd.prog 52 #[(vB sd)] w (Ret fun r w' => r = (vA (digC (mkD sd))) ∧ Ext w w') := by
  refine calls_of (n := 17) (σ := [(0, (vB sd))]) Tryd.func52 rfl ?_
  refine wpC_seq (wpC_region (wpF_step (op_new (some 2) (Instr.alloc 33 true (.tuple #[])) (vP w.heap.size 0) (digC Dig.zero) 33 ?_)))
  intro w1 hBw1 hEw1
  have hzw1 := hEw1.size; have hlw1 := hBw1.lt
  refine wpF_end (then_code (wpC_seq (wpC_region (wpF_step (op_new (some 3) (Instr.alloc 33 true (.tuple #[])) (vP w1.heap.size 0) (digC Dig.zero) 33 ?_)))))
  intro w2 hBw2 hEw2
  have hzw2 := hEw2.size; have hlw2 := hBw2.lt
  refine wpF_end (then_code (wpC_seq (wpC_seq (wpC_region (wpF_run 1 [(4, (vI 0))] (wpF_end (then_code (wpC_block (wpC_loop (X := Nat) (fun i => [(4, (vI i))]) [5, 6, 7, 8, 9, 10, 11, 12, 13, 14, 15] (fun i w3 => i ≤ 32 ∧ Blk w3 w1.heap.size (u8s (pick 32 (fun j => decide (j < i)) (fun j => UInt8.ofNat (sd + 7 * j)))) 33 ∧ Ext w1 w3) (fun i => 32 - i) 0 (by kernel_rfl) ⟨by omega, (by rw [pick_none _ _ _ (by intro j hj; simp)]; exact hBw2), hEw2⟩ ?_)))))))))
  rintro i dw3 w3 ⟨hi, hBl, hEl⟩
  have hzl := hEl.size; have hll := hBl.lt
  refine wpC_seq (wpC_seq (wpC_region (wpF_run 1 [(5, (vI i))] (wpF_step (op_split (some 6) (decide (((i : Nat) : Int) < ((32 : Nat) : Int))) (fun hc6 => ?_) (fun hc6 => ?_))))))
  · replace hc6 : i < 32 := by have := of_d_t hc6; omega
    refine wpF_end (then_code (wpC_true (wpC_skip (then_code (wpC_seq (wpC_block (wpC_region (wpF_run 3 [(11, (vI i)), (10, (vB sd)), (9, (vI i))] (wpF_step (op_in (some 12) .i64 (IntKind.i64.wrap (((7 : Nat) : Int) * ((i : Nat) : Int))) (7 * i) (wrapS (by omega) (by omega) (by omega)) ?_))))))))))
    refine wpF_step (op_in (some 13) .u8 (IntKind.u8.wrap ((7 * i : Nat) : Int)) ((7 * i) % 2 ^ 8) (wrapU rfl rfl) ?_)
    refine wpF_step (op_in (some 14) .u8 (IntKind.u8.wrap (((sd : Nat) : Int) + (((7 * i) % 2 ^ 8 : Nat) : Int))) ((sd + (7 * i) % 2 ^ 8) % 2 ^ 8) (wrapU rfl (by simp)) ?_)
    refine wpF_step (op_v (some 15) (Instr.indexAt 33 (vP w1.heap.size 0) (vI i)) (vP w1.heap.size (0 + i * 1)) (rn_ixa (E := 5) (sz := 1) (m := 32) (by omega)) ?_)
    refine wpF_step (op_store1 5 w1.heap.size (0 + i * 1) 33 (vB ((sd + (7 * i) % 2 ^ 8) % 2 ^ 8)) (u8s (pick 32 (fun j => decide (j < i)) (fun j => UInt8.ofNat (sd + 7 * j)))) hBl (by simp; omega) ?_)
    intro w4 hBw4 hCw4
    have hzw4 := hCw4.size
    rw [show ((u8s (pick 32 (fun j => decide (j < i)) (fun j => UInt8.ofNat (sd + 7 * j)))).set (0 + i * 1) (vB ((sd + (7 * i) % 2 ^ 8) % 2 ^ 8)) : List Value) = u8s (pick 32 (fun j => decide (j < i + 1)) (fun j => UInt8.ofNat (sd + 7 * j))) from by have hx := pick_set 32 (fun j => decide (j < i)) (fun j => decide (j < i + 1)) (fun j => UInt8.ofNat (sd + 7 * j)) i (UInt8.ofNat (sd + 7 * i)) (by omega) rfl (by intro j hj; by_cases h1 : j < i + 1 <;> by_cases h2 : j < i <;> by_cases h3 : j = i <;> simp [h1, h2, h3] <;> omega); rw [UInt8.toNat_ofNat'] at hx; simpa only [Nat.zero_add, Nat.mul_one, show (sd + 7 * i % 2 ^ 8) % 2 ^ 8 = (sd + 7 * i) % 2 ^ 8 from by omega] using hx] at hBw4
    refine wpF_end (inBlock_normal (then_code (wpC_region (wpF_run 1 [(7, (vI i))] (wpF_step (op_in (some 8) .i64 (IntKind.i64.wrap (((i : Nat) : Int) + ((1 : Nat) : Int))) (i + 1) (wrapS (by omega) (by omega) (by omega)) ?_))))))
    refine wpF_run 1 [(4, (vI (i + 1)))] (wpF_end (then_normal (endR_mk (i + 1) ?_ ?_)))
    · exact ⟨by omega, hBw4, (Ext.own hEl hCw4 (by omega))⟩
    · first | omega | (dsimp only; omega)
  · replace hc6 : ¬ (i < 32) := by have := of_d_f hc6; omega
    refine wpF_end (then_code (wpC_false (wpC_exit (then_exit (then_exit (inBlock_exit (then_code (wpC_seq (wpC_region ?_)))))))))
    obtain rfl : i = 32 := by omega
    have hBd : Blk w3 w1.heap.size (digC (mkD sd)) 33 := by have hq := hBl; rw [pick_all _ _ _ (by intro j hj; simpa using hj)] at hq; exact hq
    refine wpF_step (op_v (some 16) (Instr.loadAt 33 (vP w1.heap.size 0)) (vA (digC (mkD sd))) (rn_lda (vs := digC (mkD sd)) hBd.all (by rw [digC_len]; kernel_rfl)) ?_)
    refine wpF_step (op_store 33 w.heap.size 0 33 (vA (digC (mkD sd))) (digC Dig.zero) (digC (mkD sd)) (hBw1.ext hEl) (by rw [digC_len]; kernel_rfl) (by first | (simp; done) | (simp; omega)) (digC_one _) ?_)
    intro w5 hBw5 hCw5
    have hzw5 := hCw5.size
    rw [setFrom_all _ _ (by simp)] at hBw5
    exact wpF_end (then_code (wpC_ret (body_ret1 (show resVal Tryd.prog 17 _ _ (.cell 2 33) (vA (digC (mkD sd))) from ⟨⟨w.heap.size, 0, none⟩, (by kernel_rfl), run_loadVar_agg (T := 33) (vs := digC (mkD sd)) (hBw5).all (by rw [digC_len]; kernel_rfl)⟩) (⟨rfl, (Ext.own (hEw1.trans hEl) hCw5 (by omega))⟩))))

theorem c_mkR (st : Nat) (sd : Nat)  (w : World) (hp0 : st < 256) (hp1 : sd < 256) :
    Calls Tryd.prog 21 #[(vB st), (vB sd)] w (Ret fun r w' => r = (vA (recC (mkR st sd))) ∧ Ext w w') := by
  refine calls_of (n := 21) (σ := [(0, (vB st)), (1, (vB sd))]) Tryd.func21 rfl ?_
  refine wpC_seq (wpC_region (wpF_step (op_new (some 4) (Instr.alloc 35 true (.tuple #[])) (vP w.heap.size 0) (recC Rec.zero) 35 ?_)))
  intro w1 hBw1 hEw1
  have hzw1 := hEw1.size; have hlw1 := hBw1.lt
  refine wpF_end (then_code (wpC_seq (wpC_seq (wpC_region (wpF_run 1 [(5, (vB st))] (wpF_step (op_in (some 6) .u8 (((st : Nat) : Int).tmod ((3 : Nat) : Int)) (st % 3) (tmodN _ _) ?_)))))))
  refine wpF_step (op_split (some 7) ((((st % 3 : Nat) : Int) == ((0 : Nat) : Int))) (fun hc7 => ?_) (fun hc7 => ?_))
  · replace hc7 : st % 3 = 0 := by have := of_eq_t hc7; omega
    refine wpF_end (then_code (wpC_true (wpC_seq (wpC_region (wpF_run 1 [(8, (vA (recC Rec.zero)))] (wpF_step (op_store 35 w.heap.size 0 35 (vA (recC Rec.zero)) (recC Rec.zero) (recC Rec.zero) hBw1 (by rw [recC_len]; kernel_rfl) (by first | (simp; done) | (simp; omega)) (recC_one _) ?_)))))))
    intro w2 hBw2 hCw2
    have hzw2 := hCw2.size
    rw [setFrom_all _ _ (by simp)] at hBw2
    exact wpF_end (then_code (wpC_ret (then_ret (body_ret1 (show resVal Tryd.prog 21 _ _ (.cell 4 35) (vA (recC Rec.zero)) from ⟨⟨w.heap.size, 0, none⟩, (by kernel_rfl), run_loadVar_agg (T := 35) (vs := recC Rec.zero) (hBw2).all (by rw [recC_len]; kernel_rfl)⟩) (⟨by unfold mkR; first | rw [if_pos (by omega)] | (rw [if_neg (by omega)]), (Ext.own hEw1 hCw2 (by omega))⟩)))))
  · replace hc7 : ¬ (st % 3 = 0) := by have := of_eq_f hc7; omega
    refine wpF_end (then_code (wpC_false (wpC_skip (then_code (wpC_seq (wpC_region (wpF_run 1 [(9, (vB st))] (wpF_step (op_in (some 10) .u8 (((st : Nat) : Int).tmod ((3 : Nat) : Int)) (st % 3) (tmodN _ _) ?_)))))))))
    refine wpF_run 1 [(11, (vB sd))] (wpF_step (op_in (some 12) .u8 (((sd : Nat) : Int).tmod ((8 : Nat) : Int)) (sd % 8) (tmodN _ _) ?_))
    refine wpF_step (op_in (some 13) .u32 (IntKind.u32.wrap ((sd % 8 : Nat) : Int)) (sd % 8) (wrapUx rfl rfl (by show _ < 2 ^ 32; omega)) ?_)
    refine wpF_run 1 [(14, (vB sd))] (wpF_step (op_in (some 15) .u64 (IntKind.u64.wrap ((sd : Nat) : Int)) sd (wrapUx rfl rfl (by show _ < 2 ^ 64; omega)) ?_))
    refine wpF_step (op_in (some 16) .u64 (IntKind.u64.wrap (((sd : Nat) : Int) * ((257 : Nat) : Int))) (sd % 256 * 257) (wrapUx rfl (by rw [show sd % 256 = sd from by omega]; simp) (by show _ < 2 ^ 64; omega)) ?_)
    refine wpF_run 2 [(18, (vB sd)), (17, (vA (nonC ⟨sd % 8, sd % 256 * 257, by omega, by omega⟩)))] (wpF_step (op_call (some 19) (c_mkD sd _ (by omega)) ?_))
    rintro _ w3 ⟨rfl, hEw3⟩
    have hzw3 := hEw3.size
    refine wpF_step (op_v (some 20) (Instr.build 35 #[(0, (vB (st % 3))), (1, (vA (nonC ⟨sd % 8, sd % 256 * 257, by omega, by omega⟩))), (2, (vA (digC (mkD sd))))]) (vA (recC (⟨st % 3, (⟨sd % 8, sd % 256 * 257, by omega, by omega⟩), (mkD sd), by omega⟩))) (run_build_rec (st % 3) (⟨sd % 8, sd % 256 * 257, by omega, by omega⟩) (mkD sd) (by omega)) ?_)
    refine wpF_step (op_store 35 w.heap.size 0 35 (vA (recC (⟨st % 3, (⟨sd % 8, sd % 256 * 257, by omega, by omega⟩), (mkD sd), by omega⟩))) (recC Rec.zero) (recC (⟨st % 3, (⟨sd % 8, sd % 256 * 257, by omega, by omega⟩), (mkD sd), by omega⟩)) (hBw1.ext hEw3) (by rw [recC_len]; kernel_rfl) (by first | (simp; done) | (simp; omega)) (recC_one _) ?_)
    intro w4 hBw4 hCw4
    have hzw4 := hCw4.size
    rw [setFrom_all _ _ (by simp)] at hBw4
    exact wpF_end (then_code (wpC_ret (body_ret1 (show resVal Tryd.prog 21 _ _ (.cell 4 35) (vA (recC (⟨st % 3, (⟨sd % 8, sd % 256 * 257, by omega, by omega⟩), (mkD sd), by omega⟩))) from ⟨⟨w.heap.size, 0, none⟩, (by kernel_rfl), run_loadVar_agg (T := 35) (vs := recC (⟨st % 3, (⟨sd % 8, sd % 256 * 257, by omega, by omega⟩), (mkD sd), by omega⟩)) (hBw4).all (by rw [recC_len]; kernel_rfl)⟩) (⟨by unfold mkR; first | rw [if_pos (by omega)] | (rw [if_neg (by omega)]), (Ext.own (hEw1.trans hEw3) hCw4 (by omega))⟩))))

theorem c_mkE (st : Nat) (sd : Nat)  (w : World) (hp0 : st < 256) (hp1 : sd < 256) :
    Calls Tryd.prog 30 #[(vB st), (vB sd)] w (Ret fun r w' => r = (vA (entC (mkE st sd))) ∧ Ext w w') := by
  refine calls_of (n := 14) (σ := [(0, (vB st)), (1, (vB sd))]) Tryd.func30 rfl ?_
  refine wpC_seq (wpC_region (wpF_step (op_new (some 4) (Instr.alloc 38 true (.tuple #[])) (vP w.heap.size 0) (entC Ent.zero) 38 ?_)))
  intro w1 hBw1 hEw1
  have hzw1 := hEw1.size; have hlw1 := hBw1.lt
  refine wpF_end (then_code (wpC_seq (wpC_seq (wpC_region (wpF_run 1 [(5, (vB st))] (wpF_step (op_in (some 6) .u8 (((st : Nat) : Int).tmod ((3 : Nat) : Int)) (st % 3) (tmodN _ _) ?_)))))))
  refine wpF_step (op_split (some 7) ((((st % 3 : Nat) : Int) == ((0 : Nat) : Int))) (fun hc7 => ?_) (fun hc7 => ?_))
  · replace hc7 : st % 3 = 0 := by have := of_eq_t hc7; omega
    refine wpF_end (then_code (wpC_true (wpC_seq (wpC_region (wpF_run 1 [(8, (vA (entC Ent.zero)))] (wpF_step (op_store 38 w.heap.size 0 38 (vA (entC Ent.zero)) (entC Ent.zero) (entC Ent.zero) hBw1 (by rw [entC_len]; kernel_rfl) (by first | (simp; done) | (simp; omega)) (entC_one _) ?_)))))))
    intro w2 hBw2 hCw2
    have hzw2 := hCw2.size
    rw [setFrom_all _ _ (by simp)] at hBw2
    exact wpF_end (then_code (wpC_ret (then_ret (body_ret1 (show resVal Tryd.prog 14 _ _ (.cell 4 38) (vA (entC Ent.zero)) from ⟨⟨w.heap.size, 0, none⟩, (by kernel_rfl), run_loadVar_agg (T := 38) (vs := entC Ent.zero) (hBw2).all (by rw [entC_len]; kernel_rfl)⟩) (⟨by unfold mkE; first | rw [if_pos (by omega)] | (rw [if_neg (by omega)]), (Ext.own hEw1 hCw2 (by omega))⟩)))))
  · replace hc7 : ¬ (st % 3 = 0) := by have := of_eq_f hc7; omega
    refine wpF_end (then_code (wpC_false (wpC_skip (then_code (wpC_seq (wpC_region (wpF_run 1 [(9, (vB st))] (wpF_step (op_in (some 10) .u8 (((st : Nat) : Int).tmod ((3 : Nat) : Int)) (st % 3) (tmodN _ _) ?_)))))))))
    refine wpF_run 1 [(11, (vB sd))] (wpF_step (op_call (some 12) (c_mkD sd _ (by omega)) ?_))
    rintro _ w3 ⟨rfl, hEw3⟩
    have hzw3 := hEw3.size
    refine wpF_step (op_v (some 13) (Instr.build 38 #[(0, (vB (st % 3))), (1, (vA (digC (mkD sd))))]) (vA (entC (⟨st % 3, (mkD sd), by omega⟩))) (run_build_ent (st % 3) (mkD sd) (by omega)) ?_)
    refine wpF_step (op_store 38 w.heap.size 0 38 (vA (entC (⟨st % 3, (mkD sd), by omega⟩))) (entC Ent.zero) (entC (⟨st % 3, (mkD sd), by omega⟩)) (hBw1.ext hEw3) (by rw [entC_len]; kernel_rfl) (by first | (simp; done) | (simp; omega)) (entC_one _) ?_)
    intro w4 hBw4 hCw4
    have hzw4 := hCw4.size
    rw [setFrom_all _ _ (by simp)] at hBw4
    exact wpF_end (then_code (wpC_ret (body_ret1 (show resVal Tryd.prog 14 _ _ (.cell 4 38) (vA (entC (⟨st % 3, (mkD sd), by omega⟩))) from ⟨⟨w.heap.size, 0, none⟩, (by kernel_rfl), run_loadVar_agg (T := 38) (vs := entC (⟨st % 3, (mkD sd), by omega⟩)) (hBw4).all (by rw [entC_len]; kernel_rfl)⟩) (⟨by unfold mkE; first | rw [if_pos (by omega)] | (rw [if_neg (by omega)]), (Ext.own (hEw1.trans hEw3) hCw4 (by omega))⟩))))

end Go.Proofs.YtpcbhalagllhnaaDoor
