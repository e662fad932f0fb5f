/- CsS2: what each function does, by its own code. No condition beyond those of each statement. -/
import Derived.Test.YthjplefmfjkhfaaDoorCsS1
namespace Go.Proofs.YthjplefmfjkhfaaDoor
open Go Go.RowKit Go.Cs
set_option maxRecDepth 100000
set_option linter.all false
set_option linter.unusedVariables false

theorem c_Height (n : Nat)  (w : World) (hp0 : 1 ≤ n) (hp1 : n ≤ 4096) :
    Calls Tryd.prog 25 #[(vI n)] w (Ret fun r w' => r = (.tuple #[(vI (hgt n)), (vI 0)]) ∧ Ext w w') := by
  refine calls_of (n := 18) (σ := [(0, (vI n))]) Tryd.func25 rfl ?_
  have h5 := hgt_le n
  refine wpC_seq (wpC_region (wpF_run 2 [(3, (vI 0)), (2, (vI 0))] (wpF_end (then_code (wpC_seq (wpC_region (wpF_run 1 [(7, (vI n))] (wpF_step (op_call (some 8) (c_of n _ (by omega) (by omega)) ?_)))))))))
  rintro _ w1 ⟨a1, ca1, rfl, hFz1_0, hEw1⟩
  have hzw1 := hEw1.size
  have hlea1 := hFz1_0.le
  refine wpF_run 3 [(10, (vI 0)), (9, (vA [(vI n), (.slice a1 (hgt n + 1) ca1)])), (6, (.tuple #[(vA [(vI n), (.slice a1 (hgt n + 1) ca1)]), (vI 0)]))] (wpF_step (op_new (some 4) (Instr.alloc 88 true (.tuple #[])) (vP w1.heap.size 0) ([(vI 0), (.slice none 0 0)]) 88 ?_))
  intro w2 hBw2 hEw2
  have hzw2 := hEw2.size; have hlw2 := hBw2.lt
  refine wpF_step (op_store 88 w1.heap.size 0 88 (vA [(vI n), (.slice a1 (hgt n + 1) ca1)]) ([(vI 0), (.slice none 0 0)]) ([(vI n), (.slice a1 (hgt n + 1) ca1)]) hBw2 (by kernel_rfl) (by first | decide | (simp; done) | (simp; omega)) (by simp [Value.oneCell']) ?_)
  intro w3 hBw3 hCw3
  have hzw3 := hCw3.size
  rw [setFrom_all _ _ (by kernel_rfl)] at hBw3
  refine wpF_run 1 [(5, (vI 0))] (wpF_end (then_code (wpC_seq (wpC_seq (wpC_region (wpF_run 2 [(12, vF), (11, (vI 0))] (wpF_end (then_code (wpC_false ?_)))))))))
  refine wpC_skip (then_code (wpC_seq (wpC_region (wpF_run 1 [(14, (vP w1.heap.size 1))] (wpF_step (op_v (some 15) (Instr.loadAt 56 (vP w1.heap.size 1)) (.slice a1 (hgt n + 1) ca1) (rn_ld (hBw3.cell rfl)) ?_))))))
  refine wpF_run 1 [(16, (vI (hgt n + 1)))] (wpF_step (op_in (some 17) .i64 (IntKind.i64.wrap (((hgt n + 1 : Nat) : Int) - ((1 : Nat) : Int))) (hgt n) (wrapS (by omega) (by omega) (by omega)) ?_))
  exact wpF_run 2 [(3, (vI 0)), (2, (vI (hgt n)))] (wpF_end (then_code (wpC_ret (body_rets (.tuple #[(vI (hgt n)), (vI 0)]) (⟨rfl, (Ext.own (hEw1.trans hEw2) hCw3 (by omega))⟩)))))


end Go.Proofs.YthjplefmfjkhfaaDoor
