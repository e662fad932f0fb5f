/- CsS6: what each function does, by its own code. No condition beyond those of each statement. -/
import Derived.Test.YthjplefmfjkhfaaDoorCsS2
namespace Go.Proofs.YthjplefmfjkhfaaDoor
open Go Go.RowKit Go.Cs
set_option maxRecDepth 100000
set_option linter.all false
set_option linter.unusedVariables false

theorem c_NOf (k : Nat)  (w : World) (hp0 : k < 65536) :
    Calls Tryd.prog 9 #[(vA [(vH k)])] w (Ret fun r w' => r = (vI (nof k)) ∧ Ext w w') := by
  refine calls_of (n := 8) (σ := [(0, (vA [(vH k)]))]) Tryd.func9 rfl ?_
  refine wpC_seq (wpC_region (wpF_step (op_new (some 1) (Instr.box 24 (vA [(vH k)])) (vP w.heap.size 0) ([(vH k)]) 24 ?_)))
  intro w1 hBw1 hEw1
  have hzw1 := hEw1.size; have hlw1 := hBw1.lt
  refine wpF_run 1 [(2, (vI 0))] (wpF_end (then_code (wpC_seq (wpC_region (wpF_run 1 [(3, (vP w.heap.size 0))] (wpF_step (op_v (some 4) (Instr.loadAt 22 (vP w.heap.size 0)) (vH k) (rn_ld (hBw1.cell rfl)) ?_)))))))
  refine wpF_step (op_in (some 5) .i64 (IntKind.i64.wrap ((k : Nat) : Int)) k (wrapS rfl (by omega) (by omega)) ?_)
  refine wpF_step (op_in (some 6) .i64 (((k : Nat) : Int).tmod ((4096 : Nat) : Int)) (k % 4096) (tmodN _ _) ?_)
  refine wpF_step (op_in (some 7) .i64 (IntKind.i64.wrap (((1 : Nat) : Int) + ((k % 4096 : Nat) : Int))) (nof k) (wrapS (by unfold nof; omega) (by omega) (by have := nof_le k; omega)) ?_)
  exact wpF_run 1 [(2, (vI (nof k)))] (wpF_end (then_code (wpC_ret (body_rets (vI (nof k)) (⟨rfl, hEw1⟩)))))

theorem c_rCount (n : Nat) (l : Nat)  (w : World) (hp0 : 1 ≤ n) (hp1 : n ≤ 4096) (hp2 : l ≤ hgt n) :
    Calls Tryd.prog 29 #[(vI n), (vI l)] w (Ret fun r w' => r = (vI (cnt n l)) ∧ w = w') := by
  refine calls_of (n := 23) (σ := [(0, (vI n)), (1, (vI l))]) Tryd.func29 rfl ?_
  have h5 := hgt_le n
  refine wpC_seq (wpC_region (wpF_run 1 [(4, (vI 0))] (wpF_end (then_code (wpC_seq (wpC_region (wpF_run 2 [(5, (vI n)), (7, (vI n))] (wpF_end (then_code ?_)))))))))
  refine wpC_seq (wpC_seq (wpC_region (wpF_run 1 [(6, (vI 0))] (wpF_end (then_code (wpC_block (wpC_loop (X := Nat) (fun k => [(5, (vI (und n k))), (6, (vI k))]) [4, 8, 9, 10, 11, 12, 13, 14, 15, 16, 17, 18, 19, 20, 21] (fun k w1 => w = w1 ∧ k ≤ l + 1) (fun k => l + 1 - k) 0 (by kernel_rfl) ⟨rfl, by omega⟩ ?_)))))))
  rintro k dw1 w1 ⟨rfl, hk⟩
  have hun := und_n n k
  have hun2 := und_n n (k + 1)
  refine wpC_seq (wpC_seq (wpC_region (wpF_run 2 [(9, (vI l)), (8, (vI k))] (wpF_step (op_split (some 10) (decide (((k : Nat) : Int) ≤ ((l : Nat) : Int))) (fun hc10 => ?_) (fun hc10 => ?_))))))
  · replace hc10 : k ≤ l := by have := of_d_t hc10; omega
    refine wpF_end (then_code (wpC_true (wpC_skip (then_code (wpC_seq (wpC_block (wpC_seq (wpC_seq (wpC_region ?_)))))))))
    refine wpF_run 1 [(13, (vI k))] (wpF_step (op_split (some 14) (decide (((k : Nat) : Int) > ((0 : Nat) : Int))) (fun hc14 => ?_) (fun hc14 => ?_)))
    · replace hc14 : k > 0 := by have := of_d_t hc14; omega
      have hm := cnt_more (n := n) (l := k - 1) (by omega)
      have hku := und_pred (n := n) (l := k) (by omega)
      refine wpF_run 2 [(16, (vI (und n k))), (15, vT)] (wpF_step (op_b (some 17) (((und n k : Nat) : Int) == ((1 : Nat) : Int)) false (cmpEqF (by omega)) ?_))
      refine wpF_run 1 [(18, vF)] (wpF_end (then_code (wpC_false (wpC_skip (then_code (wpC_region (wpF_run 1 [(19, (vI (und n k)))] (wpF_step (op_in (some 20) .i64 (IntKind.i64.wrap (((und n k : Nat) : Int) + ((3 : Nat) : Int))) (und n k + 3) (wrapS (by omega) (by omega) (by omega)) ?_)))))))))
      refine wpF_step (op_in (some 21) .i64 (IntKind.i64.wrap (((und n k + 3 : Nat) : Int).tdiv ((4 : Nat) : Int))) (und n (k + 1)) (wrapS (tdivN _ _) (by omega) (by omega)) ?_)
      refine wpF_run 1 [(5, (vI (und n (k + 1))))] (wpF_end (inBlock_normal (then_code (wpC_region (wpF_run 1 [(11, (vI k))] (wpF_step (op_in (some 12) .i64 (IntKind.i64.wrap (((k : Nat) : Int) + ((1 : Nat) : Int))) (k + 1) (wrapS (by omega) (by omega) (by omega)) ?_)))))))
      refine wpF_run 1 [(6, (vI (k + 1)))] (wpF_end (then_normal (endR_mk (k + 1) ?_ ?_)))
      · exact ⟨rfl, by omega⟩
      · first | omega | (dsimp only; omega)
    · replace hc14 : ¬ (k > 0) := by have := of_d_f hc14; omega
      obtain rfl : k = 0 := by omega
      refine wpF_run 4 [(18, vF), (17, undef), (16, undef), (15, vF)] (wpF_end (then_code (wpC_false (wpC_skip (then_code (wpC_region (wpF_run 1 [(19, (vI (und n 0)))] (wpF_step (op_in (some 20) .i64 (IntKind.i64.wrap (((und n 0 : Nat) : Int) + ((3 : Nat) : Int))) (und n 0 + 3) (wrapS (by omega) (by omega) (by omega)) ?_)))))))))
      refine wpF_step (op_in (some 21) .i64 (IntKind.i64.wrap (((und n 0 + 3 : Nat) : Int).tdiv ((4 : Nat) : Int))) (und n (0 + 1)) (wrapS (tdivN _ _) (by omega) (by omega)) ?_)
      refine wpF_run 1 [(5, (vI (und n (0 + 1))))] (wpF_end (inBlock_normal (then_code (wpC_region (wpF_run 1 [(11, (vI 0))] (wpF_step (op_in (some 12) .i64 (IntKind.i64.wrap (((0 : Nat) : Int) + ((1 : Nat) : Int))) 1 (wrapS (by omega) (by omega) (by omega)) ?_)))))))
      refine wpF_run 1 [(6, (vI 1))] (wpF_end (then_normal (endR_mk (1) ?_ ?_)))
      · exact ⟨rfl, by omega⟩
      · first | omega | (dsimp only; omega)
  · replace hc10 : ¬ (k ≤ l) := by have := of_d_f hc10; omega
    refine wpF_end (then_code (wpC_false (wpC_exit (then_exit (then_exit (inBlock_exit (then_code (wpC_seq (wpC_region ?_)))))))))
    refine wpF_run 2 [(4, (vI (und n k))), (22, (vI (und n k)))] (wpF_end (then_code (wpC_ret (body_rets (vI (und n k)) ?_))))
    obtain rfl : k = l + 1 := by omega
    exact ⟨rfl, rfl⟩

theorem c_rHeight (n : Nat)  (w : World) (hp0 : 1 ≤ n) (hp1 : n ≤ 4096) :
    Calls Tryd.prog 13 #[(vI n)] w (Ret fun r w' => r = (vI (hgt n)) ∧ w = w') := by
  refine calls_of (n := 11) (σ := [(0, (vI n))]) Tryd.func13 rfl ?_
  have h5 := hgt_le n
  refine wpC_seq (wpC_region (wpF_run 1 [(2, (vI 0))] (wpF_end (then_code (wpC_seq (wpC_region (wpF_run 1 [(3, (vI 0))] (wpF_end (then_code ?_)))))))))
  refine wpC_seq (wpC_block (wpC_loop (X := Nat) (fun k => [(3, (vI k))]) [4, 5, 6, 7, 8, 9] (fun k w1 => w = w1 ∧ k ≤ hgt n) (fun k => hgt n - k) 0 (by kernel_rfl) ⟨rfl, by omega⟩ ?_))
  rintro k dw1 w1 ⟨rfl, hk⟩
  have hiff := cnt_one_iff hp0 hp1 hk
  refine wpC_seq (wpC_seq (wpC_region (wpF_run 2 [(5, (vI k)), (4, (vI n))] (wpF_step (op_call (some 6) (c_rCount n k _ (by omega) (by omega) (by omega)) ?_)))))
  rintro _ _ ⟨rfl, rfl⟩
  refine wpF_step (op_split (some 7) ((((cnt n k : Nat) : Int) != ((1 : Nat) : Int))) (fun hc7 => ?_) (fun hc7 => ?_))
  · replace hc7 : ¬ (cnt n k = 1) := by have := of_ne_t hc7; omega
    have hlt : k < hgt n := by rcases Nat.lt_or_ge k (hgt n) with h | h; exact h; exact absurd (hiff.2 (by omega)) hc7
    refine wpF_end (then_code (wpC_true (wpC_skip (then_code (wpC_block (wpC_region (wpF_run 1 [(8, (vI k))] (wpF_step (op_in (some 9) .i64 (IntKind.i64.wrap (((k : Nat) : Int) + ((1 : Nat) : Int))) (k + 1) (wrapS (by omega) (by omega) (by omega)) ?_)))))))))
    refine wpF_run 1 [(3, (vI (k + 1)))] (wpF_end (inBlock_normal (then_normal (endR_mk (k + 1) ?_ ?_))))
    · exact ⟨rfl, by omega⟩
    · first | omega | (dsimp only; omega)
  · replace hc7 : cnt n k = 1 := by have := of_ne_f hc7; omega
    obtain rfl := hiff.1 hc7
    refine wpF_end (then_code (wpC_false (wpC_exit (then_exit (then_exit (inBlock_exit (then_code (wpC_seq (wpC_region ?_)))))))))
    exact wpF_run 2 [(2, (vI (hgt n))), (10, (vI (hgt n)))] (wpF_end (then_code (wpC_ret (body_rets (vI (hgt n)) (⟨rfl, rfl⟩)))))

end Go.Proofs.YthjplefmfjkhfaaDoor
