/- CsS6: what each function does, by its own code. No condition beyond those of each statement. -/
import Derived.Test.YtpcbhalagllhnaaDoorCsS2
namespace Go.Proofs.YtpcbhalagllhnaaDoor
open Go Go.RowKit Go.Cs
set_option maxRecDepth 100000
set_option linter.all false
set_option linter.unusedVariables false

theorem c_NOf (k : Nat)  (w : World) (hp0 : k < 65536) :
    Calls Tryd.prog 27 #[(vA [(vH k)])] w (Ret fun r w' => r = (vI (nof k)) ∧ Ext w w') := by
  refine calls_of (n := 8) (σ := [(0, (vA [(vH k)]))]) Tryd.func27 rfl ?_
  refine wpC_seq (wpC_region (wpF_step (op_new (some 1) (Instr.box 24 (vA [(vH k)])) (vP w.heap.size 0) ([(vH k)]) 24 ?_)))
  intro w1 hBw1 hEw1
  have hzw1 := hEw1.size; have hlw1 := hBw1.lt
  refine wpF_run 1 [(2, (vI 0))] (wpF_end (then_code (wpC_seq (wpC_region (wpF_run 1 [(3, (vP w.heap.size 0))] (wpF_step (op_v (some 4) (Instr.loadAt 22 (vP w.heap.size 0)) (vH k) (rn_ld (hBw1.cell rfl)) ?_)))))))
  refine wpF_step (op_in (some 5) .i64 (IntKind.i64.wrap ((k : Nat) : Int)) k (wrapS rfl (by omega) (by omega)) ?_)
  refine wpF_step (op_in (some 6) .i64 (((k : Nat) : Int).tmod ((4096 : Nat) : Int)) (k % 4096) (tmodN _ _) ?_)
  refine wpF_step (op_in (some 7) .i64 (IntKind.i64.wrap (((1 : Nat) : Int) + ((k % 4096 : Nat) : Int))) (nof k) (wrapS (by unfold nof; omega) (by omega) (by have := nof_le k; omega)) ?_)
  exact wpF_run 1 [(2, (vI (nof k)))] (wpF_end (then_code (wpC_ret (body_rets (vI (nof k)) (⟨rfl, hEw1⟩)))))

theorem c_rCount (n : Nat) (l : Nat)  (w : World) (hp0 : 1 ≤ n) (hp1 : n ≤ 4096) (hp2 : l ≤ hgt n) :
    Calls Tryd.prog 18 #[(vI n), (vI l)] w (Ret fun r w' => r = (vI (cnt n l)) ∧ w = w') := by
  refine calls_of (n := 23) (σ := [(0, (vI n)), (1, (vI l))]) Tryd.func18 rfl ?_
  have h5 := hgt_le n
  refine wpC_seq (wpC_region (wpF_run 1 [(4, (vI 0))] (wpF_end (then_code (wpC_seq (wpC_region (wpF_run 2 [(5, (vI n)), (7, (vI n))] (wpF_end (then_code ?_)))))))))
  refine wpC_seq (wpC_seq (wpC_region (wpF_run 1 [(6, (vI 0))] (wpF_end (then_code (wpC_block (wpC_loop (X := Nat) (fun k => [(5, (vI (und n k))), (6, (vI k))]) [4, 8, 9, 10, 11, 12, 13, 14, 15, 16, 17, 18, 19, 20, 21] (fun k w1 => w = w1 ∧ k ≤ l + 1) (fun k => l + 1 - k) 0 (by kernel_rfl) ⟨rfl, by omega⟩ ?_)))))))
  rintro k dw1 w1 ⟨rfl, hk⟩
  have hun := und_n n k
  have hun2 := und_n n (k + 1)
  refine wpC_seq (wpC_seq (wpC_region (wpF_run 2 [(9, (vI l)), (8, (vI k))] (wpF_step (op_split (some 10) (decide (((k : Nat) : Int) ≤ ((l : Nat) : Int))) (fun hc10 => ?_) (fun hc10 => ?_))))))
  · replace hc10 : k ≤ l := by have := of_d_t hc10; omega
    refine wpF_end (then_code (wpC_true (wpC_skip (then_code (wpC_seq (wpC_block (wpC_seq (wpC_seq (wpC_region ?_)))))))))
    refine wpF_run 1 [(13, (vI k))] (wpF_step (op_split (some 14) (decide (((k : Nat) : Int) > ((0 : Nat) : Int))) (fun hc14 => ?_) (fun hc14 => ?_)))
    · replace hc14 : k > 0 := by have := of_d_t hc14; omega
      have hm := cnt_more (n := n) (l := k - 1) (by omega)
      have hku := und_pred (n := n) (l := k) (by omega)
      refine wpF_run 2 [(16, (vI (und n k))), (15, vT)] (wpF_step (op_b (some 17) (((und n k : Nat) : Int) == ((1 : Nat) : Int)) false (cmpEqF (by omega)) ?_))
      refine wpF_run 1 [(18, vF)] (wpF_end (then_code (wpC_false (wpC_skip (then_code (wpC_region (wpF_run 1 [(19, (vI (und n k)))] (wpF_step (op_in (some 20) .i64 (IntKind.i64.wrap (((und n k : Nat) : Int) + ((3 : Nat) : Int))) (und n k + 3) (wrapS (by omega) (by omega) (by omega)) ?_)))))))))
      refine wpF_step (op_in (some 21) .i64 (IntKind.i64.wrap (((und n k + 3 : Nat) : Int).tdiv ((4 : Nat) : Int))) (und n (k + 1)) (wrapS (tdivN _ _) (by omega) (by omega)) ?_)
      refine wpF_run 1 [(5, (vI (und n (k + 1))))] (wpF_end (inBlock_normal (then_code (wpC_region (wpF_run 1 [(11, (vI k))] (wpF_step (op_in (some 12) .i64 (IntKind.i64.wrap (((k : Nat) : Int) + ((1 : Nat) : Int))) (k + 1) (wrapS (by omega) (by omega) (by omega)) ?_)))))))
      refine wpF_run 1 [(6, (vI (k + 1)))] (wpF_end (then_normal (endR_mk (k + 1) ?_ ?_)))
      · exact ⟨rfl, by omega⟩
      · first | omega | (dsimp only; omega)
    · replace hc14 : ¬ (k > 0) := by have := of_d_f hc14; omega
      obtain rfl : k = 0 := by omega
      refine wpF_run 4 [(18, vF), (17, undef), (16, undef), (15, vF)] (wpF_end (then_code (wpC_false (wpC_skip (then_code (wpC_region (wpF_run 1 [(19, (vI (und n 0)))] (wpF_step (op_in (some 20) .i64 (IntKind.i64.wrap (((und n 0 : Nat) : Int) + ((3 : Nat) : Int))) (und n 0 + 3) (wrapS (by omega) (by omega) (by omega)) ?_)))))))))
      refine wpF_step (op_in (some 21) .i64 (IntKind.i64.wrap (((und n 0 + 3 : Nat) : Int).tdiv ((4 : Nat) : Int))) (und n (0 + 1)) (wrapS (tdivN _ _) (by omega) (by omega)) ?_)
      refine wpF_run 1 [(5, (vI (und n (0 + 1))))] (wpF_end (inBlock_normal (then_code (wpC_region (wpF_run 1 [(11, (vI 0))] (wpF_step (op_in (some 12) .i64 (IntKind.i64.wrap (((0 : Nat) : Int) + ((1 : Nat) : Int))) 1 (wrapS (by omega) (by omega) (by omega)) ?_)))))))
      refine wpF_run 1 [(6, (vI 1))] (wpF_end (then_normal (endR_mk (1) ?_ ?_)))
      · exact ⟨rfl, by omega⟩
      · first | omega | (dsimp only; omega)
  · replace hc10 : ¬ (k ≤ l) := by have := of_d_f hc10; omega
    refine wpF_end (then_code (wpC_false (wpC_exit (then_exit (then_exit (inBlock_exit (then_code (wpC_seq (wpC_region ?_)))))))))
    refine wpF_run 2 [(4, (vI (und n k))), (22, (vI (und n k)))] (wpF_end (then_code (wpC_ret (body_rets (vI (und n k)) ?_))))
    obtain rfl : k = l + 1 := by omega
    exact ⟨rfl, rfl⟩

theorem c_rHeight (n : Nat)  (w : World) (hp0 : 1 ≤ n) (hp1 : n ≤ 4096) :
    Calls Tryd.prog 28 #[(vI n)] w (Ret fun r w' => r = (vI (hgt n)) ∧ w = w') := by
  refine calls_of (n := 11) (σ := [(0, (vI n))]) Tryd.func28 rfl ?_
  have h5 := hgt_le n
  refine wpC_seq (wpC_region (wpF_run 1 [(2, (vI 0))] (wpF_end (then_code (wpC_seq (wpC_region (wpF_run 1 [(3, (vI 0))] (wpF_end (then_code ?_)))))))))
  refine wpC_seq (wpC_block (wpC_loop (X := Nat) (fun k => [(3, (vI k))]) [4, 5, 6, 7, 8, 9] (fun k w1 => w = w1 ∧ k ≤ hgt n) (fun k => hgt n - k) 0 (by kernel_rfl) ⟨rfl, by omega⟩ ?_))
  rintro k dw1 w1 ⟨rfl, hk⟩
  have hiff := cnt_one_iff hp0 hp1 hk
  refine wpC_seq (wpC_seq (wpC_region (wpF_run 2 [(5, (vI k)), (4, (vI n))] (wpF_step (op_call (some 6) (c_rCount n k _ (by omega) (by omega) (by omega)) ?_)))))
  rintro _ _ ⟨rfl, rfl⟩
  refine wpF_step (op_split (some 7) ((((cnt n k : Nat) : Int) != ((1 : Nat) : Int))) (fun hc7 => ?_) (fun hc7 => ?_))
  · replace hc7 : ¬ (cnt n k = 1) := by have := of_ne_t hc7; omega
    have hlt : k < hgt n := by rcases Nat.lt_or_ge k (hgt n) with h | h; exact h; exact absurd (hiff.2 (by omega)) hc7
    refine wpF_end (then_code (wpC_true (wpC_skip (then_code (wpC_block (wpC_region (wpF_run 1 [(8, (vI k))] (wpF_step (op_in (some 9) .i64 (IntKind.i64.wrap (((k : Nat) : Int) + ((1 : Nat) : Int))) (k + 1) (wrapS (by omega) (by omega) (by omega)) ?_)))))))))
    refine wpF_run 1 [(3, (vI (k + 1)))] (wpF_end (inBlock_normal (then_normal (endR_mk (k + 1) ?_ ?_))))
    · exact ⟨rfl, by omega⟩
    · first | omega | (dsimp only; omega)
  · replace hc7 : cnt n k = 1 := by have := of_ne_f hc7; omega
    obtain rfl := hiff.1 hc7
    refine wpF_end (then_code (wpC_false (wpC_exit (then_exit (then_exit (inBlock_exit (then_code (wpC_seq (wpC_region ?_)))))))))
    exact wpF_run 2 [(2, (vI (hgt n))), (10, (vI (hgt n)))] (wpF_end (then_code (wpC_ret (body_rets (vI (hgt n)) (⟨rfl, rfl⟩)))))

theorem c_rIs (n : Nat) (l : Nat) (j : Nat)  (w : World) (hp0 : 1 ≤ n) (hp1 : n ≤ 4096) (hp2 : l ≤ hgt n) (hp3 : j < cnt n l) :
    Calls Tryd.prog 53 #[(vI n), (vI l), (vI j)] w (Ret fun r w' => r = vT ∧ w = w') := by
  refine calls_of (n := 26) (σ := [(0, (vI n)), (1, (vI l)), (2, (vI j))]) Tryd.func53 rfl ?_
  refine wpC_seq (wpC_region (wpF_run 1 [(6, vF)] (wpF_end (then_code (wpC_seq (wpC_region (wpF_run 1 [(7, (vI l))] (wpF_step (op_b (some 8) (decide (((l : Nat) : Int) ≥ ((0 : Nat) : Int))) true (cmpDT (by omega)) ?_)))))))))
  refine wpF_run 3 [(11, (vI n)), (10, (vI l)), (9, vT)] (wpF_step (op_call (some 12) (c_rHeight n _ (by omega) (by omega)) ?_))
  rintro _ _ ⟨rfl, rfl⟩
  refine wpF_step (op_b (some 13) (decide (((l : Nat) : Int) ≤ ((hgt n : Nat) : Int))) true (cmpDT (by omega)) ?_)
  refine wpF_run 3 [(16, (vI j)), (15, vT), (14, vT)] (wpF_step (op_b (some 17) (decide (((j : Nat) : Int) ≥ ((0 : Nat) : Int))) true (cmpDT (by omega)) ?_))
  refine wpF_run 5 [(22, (vI l)), (21, (vI n)), (20, (vI j)), (19, vT), (18, vT)] (wpF_step (op_call (some 23) (c_rCount n l _ (by omega) (by omega) (by omega)) ?_))
  rintro _ _ ⟨rfl, rfl⟩
  refine wpF_step (op_b (some 24) (decide (((j : Nat) : Int) < ((cnt n l : Nat) : Int))) true (cmpDT (by omega)) ?_)
  exact wpF_run 2 [(6, vT), (25, vT)] (wpF_end (then_code (wpC_ret (body_rets vT (⟨rfl, rfl⟩)))))

theorem c_rIsB1 (n : Nat) (l : Int) (j : Int)  (w : World) (hp0 : 1 ≤ n) (hp1 : n ≤ 4096) (hp2 : l < 0) :
    Calls Tryd.prog 53 #[(vI n), (.int .i64 l), (.int .i64 j)] w (Ret fun r w' => r = vF ∧ w = w') := by
  refine calls_of (n := 26) (σ := [(0, (vI n)), (1, (.int .i64 l)), (2, (.int .i64 j))]) Tryd.func53 rfl ?_
  refine wpC_seq (wpC_region (wpF_run 1 [(6, vF)] (wpF_end (then_code (wpC_seq (wpC_region (wpF_run 1 [(7, (.int .i64 l))] (wpF_step (op_b (some 8) (decide (l ≥ ((0 : Nat) : Int))) false (cmpDF (by omega)) ?_)))))))))
  exact wpF_run 18 [(6, vF), (25, vF), (24, undef), (23, undef), (22, undef), (21, undef), (20, undef), (19, vF), (18, vF), (17, undef), (16, undef), (15, vF), (14, vF), (13, undef), (12, undef), (11, undef), (10, undef), (9, vF)] (wpF_end (then_code (wpC_ret (body_rets vF (⟨rfl, rfl⟩)))))

theorem c_rIsB2 (n : Nat) (l : Nat) (j : Int)  (w : World) (hp0 : 1 ≤ n) (hp1 : n ≤ 4096) (hp2 : hgt n < l) :
    Calls Tryd.prog 53 #[(vI n), (vI l), (.int .i64 j)] w (Ret fun r w' => r = vF ∧ w = w') := by
  refine calls_of (n := 26) (σ := [(0, (vI n)), (1, (vI l)), (2, (.int .i64 j))]) Tryd.func53 rfl ?_
  refine wpC_seq (wpC_region (wpF_run 1 [(6, vF)] (wpF_end (then_code (wpC_seq (wpC_region (wpF_run 1 [(7, (vI l))] (wpF_step (op_b (some 8) (decide (((l : Nat) : Int) ≥ ((0 : Nat) : Int))) true (cmpDT (by omega)) ?_)))))))))
  refine wpF_run 3 [(11, (vI n)), (10, (vI l)), (9, vT)] (wpF_step (op_call (some 12) (c_rHeight n _ (by omega) (by omega)) ?_))
  rintro _ _ ⟨rfl, rfl⟩
  refine wpF_step (op_b (some 13) (decide (((l : Nat) : Int) ≤ ((hgt n : Nat) : Int))) false (cmpDF (by omega)) ?_)
  exact wpF_run 13 [(6, vF), (25, vF), (24, undef), (23, undef), (22, undef), (21, undef), (20, undef), (19, vF), (18, vF), (17, undef), (16, undef), (15, vF), (14, vF)] (wpF_end (then_code (wpC_ret (body_rets vF (⟨rfl, rfl⟩)))))

theorem c_rIsB3 (n : Nat) (l : Nat) (j : Int)  (w : World) (hp0 : 1 ≤ n) (hp1 : n ≤ 4096) (hp2 : l ≤ hgt n) (hp3 : j < 0) :
    Calls Tryd.prog 53 #[(vI n), (vI l), (.int .i64 j)] w (Ret fun r w' => r = vF ∧ w = w') := by
  refine calls_of (n := 26) (σ := [(0, (vI n)), (1, (vI l)), (2, (.int .i64 j))]) Tryd.func53 rfl ?_
  refine wpC_seq (wpC_region (wpF_run 1 [(6, vF)] (wpF_end (then_code (wpC_seq (wpC_region (wpF_run 1 [(7, (vI l))] (wpF_step (op_b (some 8) (decide (((l : Nat) : Int) ≥ ((0 : Nat) : Int))) true (cmpDT (by omega)) ?_)))))))))
  refine wpF_run 3 [(11, (vI n)), (10, (vI l)), (9, vT)] (wpF_step (op_call (some 12) (c_rHeight n _ (by omega) (by omega)) ?_))
  rintro _ _ ⟨rfl, rfl⟩
  refine wpF_step (op_b (some 13) (decide (((l : Nat) : Int) ≤ ((hgt n : Nat) : Int))) true (cmpDT (by omega)) ?_)
  refine wpF_run 3 [(16, (.int .i64 j)), (15, vT), (14, vT)] (wpF_step (op_b (some 17) (decide (j ≥ ((0 : Nat) : Int))) false (cmpDF (by omega)) ?_))
  exact wpF_run 9 [(6, vF), (25, vF), (24, undef), (23, undef), (22, undef), (21, undef), (20, undef), (19, vF), (18, vF)] (wpF_end (then_code (wpC_ret (body_rets vF (⟨rfl, rfl⟩)))))

theorem c_rIsB4 (n : Nat) (l : Nat) (j : Nat)  (w : World) (hp0 : 1 ≤ n) (hp1 : n ≤ 4096) (hp2 : l ≤ hgt n) (hp3 : cnt n l ≤ j) :
    Calls Tryd.prog 53 #[(vI n), (vI l), (vI j)] w (Ret fun r w' => r = vF ∧ w = w') := by
  refine calls_of (n := 26) (σ := [(0, (vI n)), (1, (vI l)), (2, (vI j))]) Tryd.func53 rfl ?_
  refine wpC_seq (wpC_region (wpF_run 1 [(6, vF)] (wpF_end (then_code (wpC_seq (wpC_region (wpF_run 1 [(7, (vI l))] (wpF_step (op_b (some 8) (decide (((l : Nat) : Int) ≥ ((0 : Nat) : Int))) true (cmpDT (by omega)) ?_)))))))))
  refine wpF_run 3 [(11, (vI n)), (10, (vI l)), (9, vT)] (wpF_step (op_call (some 12) (c_rHeight n _ (by omega) (by omega)) ?_))
  rintro _ _ ⟨rfl, rfl⟩
  refine wpF_step (op_b (some 13) (decide (((l : Nat) : Int) ≤ ((hgt n : Nat) : Int))) true (cmpDT (by omega)) ?_)
  refine wpF_run 3 [(16, (vI j)), (15, vT), (14, vT)] (wpF_step (op_b (some 17) (decide (((j : Nat) : Int) ≥ ((0 : Nat) : Int))) true (cmpDT (by omega)) ?_))
  refine wpF_run 5 [(22, (vI l)), (21, (vI n)), (20, (vI j)), (19, vT), (18, vT)] (wpF_step (op_call (some 23) (c_rCount n l _ (by omega) (by omega) (by omega)) ?_))
  rintro _ _ ⟨rfl, rfl⟩
  refine wpF_step (op_b (some 24) (decide (((j : Nat) : Int) < ((cnt n l : Nat) : Int))) false (cmpDF (by omega)) ?_)
  exact wpF_run 2 [(6, vF), (25, vF)] (wpF_end (then_code (wpC_ret (body_rets vF (⟨rfl, rfl⟩)))))

theorem c_rIsBad (n : Nat) (l : Int) (j : Int)  (w : World) (hp0 : 1 ≤ n) (hp1 : n ≤ 4096) (hp2 : ¬ ((0 ≤ l ∧ l ≤ hgt n) ∧ (0 ≤ j ∧ j < cnt n l.toNat))) :
    Calls Tryd.prog 53 #[(vI n), (.int .i64 l), (.int .i64 j)] w (Ret fun r w' => r = vF ∧ w = w') := by
  by_cases hl : l < 0
  · exact c_rIsB1 n l j w hp0 hp1 hl
  · obtain ⟨k, rfl⟩ := Int.eq_ofNat_of_zero_le (show 0 ≤ l by omega)
    rw [Int.toNat_natCast] at hp2
    by_cases hk : hgt n < k
    · exact c_rIsB2 n k j w hp0 hp1 hk
    · by_cases hj : j < 0
      · exact c_rIsB3 n k j w hp0 hp1 (by omega) hj
      · obtain ⟨i, rfl⟩ := Int.eq_ofNat_of_zero_le (show 0 ≤ j by omega)
        exact c_rIsB4 n k i w hp0 hp1 (by omega) (by omega)

theorem c_rParts (n : Nat) (l : Nat) (j : Nat)  (w : World) (hp0 : 1 ≤ n) (hp1 : n ≤ 4096) (hp2 : l ≤ hgt n + 1) (hp3 : j ≤ 4096) :
    Calls Tryd.prog 29 #[(vI n), (vI l), (vI j)] w (Ret fun r w' => r = (vI (prt n l j)) ∧ w = w') := by
  refine calls_of (n := 30) (σ := [(0, (vI n)), (1, (vI l)), (2, (vI j))]) Tryd.func29 rfl ?_
  have h5 := hgt_le n
  refine wpC_seq (wpC_region (wpF_run 1 [(6, (vI 0))] (wpF_end (then_code (wpC_seq (wpC_region (wpF_run 2 [(7, (vI n)), (10, (vI n))] (wpF_end (then_code ?_)))))))))
  refine wpC_seq (wpC_seq (wpC_region (wpF_run 1 [(11, (vI l))] (wpF_step (op_split (some 12) (decide (((l : Nat) : Int) > ((0 : Nat) : Int))) (fun hc12 => ?_) (fun hc12 => ?_))))))
  · replace hc12 : l > 0 := by have := of_d_t hc12; omega
    have hup := und_pred (n := n) (l := l) (by omega)
    have hun := und_n n l
    refine wpF_end (then_code (wpC_true (wpC_region (wpF_run 2 [(14, (vI l)), (13, (vI n))] (wpF_step (op_in (some 15) .i64 (IntKind.i64.wrap (((l : Nat) : Int) - ((1 : Nat) : Int))) (l - 1) (wrapS (by omega) (by omega) (by omega)) ?_))))))
    refine wpF_step (op_call (some 16) (c_rCount n (l - 1) _ (by omega) (by omega) (by omega)) ?_)
    rintro _ _ ⟨rfl, rfl⟩
    rw [show cnt n (l - 1) = und n l from hup.symm]
    refine wpF_run 1 [(7, (vI (und n l)))] (wpF_end (then_code (wpC_seq (wpC_region (wpF_run 1 [(8, (vI 0))] (wpF_end (then_code (wpC_seq (wpC_seq ?_)))))))))
    refine wpC_region (wpF_run 1 [(9, (vI 0))] (wpF_end (then_code (wpC_block (wpC_loop (X := Nat) (fun v => [(8, (vI (min v (und n l - 4 * j)))), (9, (vI v))]) [17, 18, 19, 20, 21, 22, 23, 24, 25, 26, 27, 28] (fun v w1 => w = w1 ∧ v ≤ 4) (fun v => 4 - v) 0 (by rw [Nat.zero_min]; kernel_rfl) ⟨rfl, by omega⟩ ?_)))))
    rintro v dw1 w1 ⟨rfl, hv⟩
    refine wpC_seq (wpC_seq (wpC_region (wpF_run 1 [(17, (vI v))] (wpF_step (op_split (some 18) (decide (((v : Nat) : Int) < ((4 : Nat) : Int))) (fun hc18 => ?_) (fun hc18 => ?_))))))
    · replace hc18 : v < 4 := by have := of_d_t hc18; omega
      refine wpF_end (then_code (wpC_true (wpC_skip (then_code (wpC_seq (wpC_block (wpC_seq (wpC_region (wpF_run 1 [(21, (vI j))] ?_)))))))))
      refine wpF_step (op_in (some 22) .i64 (IntKind.i64.wrap (((4 : Nat) : Int) * ((j : Nat) : Int))) (4 * j) (wrapS (by omega) (by omega) (by omega)) ?_)
      refine wpF_run 1 [(23, (vI v))] (wpF_step (op_in (some 24) .i64 (IntKind.i64.wrap (((4 * j : Nat) : Int) + ((v : Nat) : Int))) (4 * j + v) (wrapS (by omega) (by omega) (by omega)) ?_))
      refine wpF_run 1 [(25, (vI (und n l)))] (wpF_step (op_split (some 26) (decide (((4 * j + v : Nat) : Int) < ((und n l : Nat) : Int))) (fun hc26 => ?_) (fun hc26 => ?_)))
      · replace hc26 : 4 * j + v < und n l := by have := of_d_t hc26; omega
        refine wpF_end (then_code (wpC_true (wpC_region (wpF_run 1 [(27, (vI (min v (und n l - 4 * j))))] (wpF_step (op_in (some 28) .i64 (IntKind.i64.wrap (((min v (und n l - 4 * j) : Nat) : Int) + ((1 : Nat) : Int))) (min (v + 1) (und n l - 4 * j)) (wrapS (by omega) (by omega) (by omega)) ?_))))))
        refine wpF_run 1 [(8, (vI (min (v + 1) (und n l - 4 * j))))] (wpF_end (inBlock_normal (then_code (wpC_region (wpF_run 1 [(19, (vI v))] (wpF_step (op_in (some 20) .i64 (IntKind.i64.wrap (((v : Nat) : Int) + ((1 : Nat) : Int))) (v + 1) (wrapS (by omega) (by omega) (by omega)) ?_)))))))
        refine wpF_run 1 [(9, (vI (v + 1)))] (wpF_end (then_normal (endR_mk (v + 1) ?_ ?_)))
        · exact ⟨rfl, by omega⟩
        · first | omega | (dsimp only; omega)
      · replace hc26 : ¬ (4 * j + v < und n l) := by have := of_d_f hc26; omega
        rw [show min v (und n l - 4 * j) = min (v + 1) (und n l - 4 * j) from by omega]
        refine wpF_end (then_code (wpC_false (wpC_skip (inBlock_normal (then_code (wpC_region (wpF_run 1 [(19, (vI v))] (wpF_step (op_in (some 20) .i64 (IntKind.i64.wrap (((v : Nat) : Int) + ((1 : Nat) : Int))) (v + 1) (wrapS (by omega) (by omega) (by omega)) ?_)))))))))
        refine wpF_run 1 [(9, (vI (v + 1)))] (wpF_end (then_normal (endR_mk (v + 1) ?_ ?_)))
        · exact ⟨rfl, by omega⟩
        · first | omega | (dsimp only; omega)
    · replace hc18 : ¬ (v < 4) := by have := of_d_f hc18; omega
      refine wpF_end (then_code (wpC_false (wpC_exit (then_exit (then_exit (inBlock_exit (then_code (wpC_seq (wpC_region ?_)))))))))
      refine wpF_run 2 [(6, (vI (min v (und n l - 4 * j)))), (29, (vI (min v (und n l - 4 * j))))] (wpF_end (then_code (wpC_ret (body_rets (vI (min v (und n l - 4 * j))) ?_))))
      obtain rfl : v = 4 := by omega
      exact ⟨rfl, rfl⟩
  · replace hc12 : ¬ (l > 0) := by have := of_d_f hc12; omega
    obtain rfl : l = 0 := by omega
    have hu0 : und n 0 = n := rfl
    refine wpF_end (then_code (wpC_false (wpC_skip (then_code (wpC_seq (wpC_region (wpF_run 1 [(8, (vI 0))] (wpF_end (then_code ?_)))))))))
    refine wpC_seq (wpC_seq (wpC_region (wpF_run 1 [(9, (vI 0))] (wpF_end (then_code (wpC_block (wpC_loop (X := Nat) (fun v => [(8, (vI (min v (und n 0 - 4 * j)))), (9, (vI v))]) [17, 18, 19, 20, 21, 22, 23, 24, 25, 26, 27, 28] (fun v w2 => w = w2 ∧ v ≤ 4) (fun v => 4 - v) 0 (by rw [Nat.zero_min]; kernel_rfl) ⟨rfl, by omega⟩ ?_)))))))
    rintro v dw2 w2 ⟨rfl, hv⟩
    refine wpC_seq (wpC_seq (wpC_region (wpF_run 1 [(17, (vI v))] (wpF_step (op_split (some 18) (decide (((v : Nat) : Int) < ((4 : Nat) : Int))) (fun hc18 => ?_) (fun hc18 => ?_))))))
    · replace hc18 : v < 4 := by have := of_d_t hc18; omega
      refine wpF_end (then_code (wpC_true (wpC_skip (then_code (wpC_seq (wpC_block (wpC_seq (wpC_region (wpF_run 1 [(21, (vI j))] ?_)))))))))
      refine wpF_step (op_in (some 22) .i64 (IntKind.i64.wrap (((4 : Nat) : Int) * ((j : Nat) : Int))) (4 * j) (wrapS (by omega) (by omega) (by omega)) ?_)
      refine wpF_run 1 [(23, (vI v))] (wpF_step (op_in (some 24) .i64 (IntKind.i64.wrap (((4 * j : Nat) : Int) + ((v : Nat) : Int))) (4 * j + v) (wrapS (by omega) (by omega) (by omega)) ?_))
      refine wpF_run 1 [(25, (vI n))] (wpF_step (op_split (some 26) (decide (((4 * j + v : Nat) : Int) < ((n : Nat) : Int))) (fun hc26 => ?_) (fun hc26 => ?_)))
      · replace hc26 : 4 * j + v < n := by have := of_d_t hc26; omega
        refine wpF_end (then_code (wpC_true (wpC_region (wpF_run 1 [(27, (vI (min v (und n 0 - 4 * j))))] (wpF_step (op_in (some 28) .i64 (IntKind.i64.wrap (((min v (und n 0 - 4 * j) : Nat) : Int) + ((1 : Nat) : Int))) (min (v + 1) (und n 0 - 4 * j)) (wrapS (by omega) (by omega) (by omega)) ?_))))))
        refine wpF_run 1 [(8, (vI (min (v + 1) (und n 0 - 4 * j))))] (wpF_end (inBlock_normal (then_code (wpC_region (wpF_run 1 [(19, (vI v))] (wpF_step (op_in (some 20) .i64 (IntKind.i64.wrap (((v : Nat) : Int) + ((1 : Nat) : Int))) (v + 1) (wrapS (by omega) (by omega) (by omega)) ?_)))))))
        refine wpF_run 1 [(9, (vI (v + 1)))] (wpF_end (then_normal (endR_mk (v + 1) ?_ ?_)))
        · exact ⟨rfl, by omega⟩
        · first | omega | (dsimp only; omega)
      · replace hc26 : ¬ (4 * j + v < n) := by have := of_d_f hc26; omega
        rw [show min v (und n 0 - 4 * j) = min (v + 1) (und n 0 - 4 * j) from by omega]
        refine wpF_end (then_code (wpC_false (wpC_skip (inBlock_normal (then_code (wpC_region (wpF_run 1 [(19, (vI v))] (wpF_step (op_in (some 20) .i64 (IntKind.i64.wrap (((v : Nat) : Int) + ((1 : Nat) : Int))) (v + 1) (wrapS (by omega) (by omega) (by omega)) ?_)))))))))
        refine wpF_run 1 [(9, (vI (v + 1)))] (wpF_end (then_normal (endR_mk (v + 1) ?_ ?_)))
        · exact ⟨rfl, by omega⟩
        · first | omega | (dsimp only; omega)
    · replace hc18 : ¬ (v < 4) := by have := of_d_f hc18; omega
      refine wpF_end (then_code (wpC_false (wpC_exit (then_exit (then_exit (inBlock_exit (then_code (wpC_seq (wpC_region ?_)))))))))
      refine wpF_run 2 [(6, (vI (min v (und n 0 - 4 * j)))), (29, (vI (min v (und n 0 - 4 * j))))] (wpF_end (then_code (wpC_ret (body_rets (vI (min v (und n 0 - 4 * j))) ?_))))
      obtain rfl : v = 4 := by omega
      exact ⟨rfl, rfl⟩

end Go.Proofs.YtpcbhalagllhnaaDoor
