/- CsS1: what each function does, by its own code. No condition beyond those of each statement. -/
import Derived.Test.YthjplefmfjkhfaaDoorCsR3
import Derived.Test.YthjplefmfjkhfaaDoorCsShp
namespace Go.Proofs.YthjplefmfjkhfaaDoor
open Go Go.RowKit Go.Cs
set_option maxRecDepth 100000
set_option linter.all false
set_option linter.unusedVariables false

theorem c_Check (n : Nat)  (w : World) (hp0 : 1 ≤ n) (hp1 : n ≤ 4096) :
    Calls Tryd.prog 40 #[(vI n)] w (Ret fun r w' => r = (vI 0) ∧ w = w') := by
  refine calls_of (n := 9) (σ := [(0, (vI n))]) Tryd.func40 rfl ?_
  refine wpC_seq (wpC_region (wpF_run 1 [(2, (vI 0))] (wpF_end (then_code (wpC_seq (wpC_seq (wpC_region (wpF_run 1 [(3, (vI n))] (wpF_step (op_b (some 4) (decide (((n : Nat) : Int) < ((1 : Nat) : Int))) false (cmpDF (by omega)) ?_))))))))))
  refine wpF_run 2 [(6, (vI n)), (5, vF)] (wpF_step (op_b (some 7) (decide (((n : Nat) : Int) > ((4096 : Nat) : Int))) false (cmpDF (by omega)) ?_))
  refine wpF_run 1 [(8, vF)] (wpF_end (then_code (wpC_false (wpC_skip (then_code (wpC_seq (wpC_region (wpF_run 1 [(2, (vI 0))] (wpF_end ?_)))))))))
  exact then_code (wpC_ret (body_rets (vI 0) (⟨rfl, rfl⟩)))

theorem c_above (n : Nat)  (w : World) (hp0 : n ≤ 4096) :
    Calls Tryd.prog 61 #[(vI n)] w (Ret fun r w' => r = (vI (up4 n)) ∧ w = w') := by
  refine calls_of (n := 7) (σ := [(0, (vI n))]) Tryd.func61 rfl ?_
  refine wpC_seq (wpC_region (wpF_run 1 [(2, (vI 0))] (wpF_end (then_code (wpC_seq (wpC_region (wpF_run 1 [(3, (vI n))] (wpF_step (op_in (some 4) .i64 (IntKind.i64.wrap (((n : Nat) : Int) + ((4 : Nat) : Int))) (n + 4) (wrapS (by omega) (by omega) (by omega)) ?_)))))))))
  refine wpF_step (op_in (some 5) .i64 (IntKind.i64.wrap (((n + 4 : Nat) : Int) - ((1 : Nat) : Int))) (n + 3) (wrapS (by omega) (by omega) (by omega)) ?_)
  refine wpF_step (op_in (some 6) .i64 (IntKind.i64.wrap (((n + 3 : Nat) : Int).tdiv ((4 : Nat) : Int))) ((n + 3) / 4) (wrapS (tdivN _ _) (by omega) (by omega)) ?_)
  exact wpF_run 1 [(2, (vI ((n + 3) / 4)))] (wpF_end (then_code (wpC_ret (body_rets (vI ((n + 3) / 4)) (⟨rfl, rfl⟩)))))

theorem c_counts (n : Nat)  (w : World) (hp0 : 1 ≤ n) (hp1 : n ≤ 4096) :
    Calls Tryd.prog 41 #[(vI n)] w (Ret fun r w' => ∃ a0 ca0, r = (.slice a0 (hgt n + 1) ca0) ∧ Es (nv .i64) w.heap.size w'.heap.size w' a0 (hgt n + 1) ca0 (cts n) ∧ Ext w w') := by
  refine calls_of (n := 18) (σ := [(0, (vI n))]) Tryd.func41 rfl ?_
  refine wpC_seq (wpC_region (wpF_run 1 [(2, (.slice none 0 0))] (wpF_end (then_code (wpC_seq (wpC_region (wpF_step (op_new (some 3) (Instr.alloc 125 true (.tuple #[])) (vP w.heap.size 0) (List.replicate 6 (vI 0)) 125 ?_))))))))
  intro w1 hBw1 hEw1
  have hzw1 := hEw1.size; have hlw1 := hBw1.lt
  refine wpF_end (then_code (wpC_seq (wpC_region (wpF_step (op_v (some 6) (Instr.sliceAt 125 (vP w.heap.size 0) (some (vI 0)) (some (vI 0)) (some (vI 6))) (.slice (pA w.heap.size 0) 0 6) (rn_slb (len := 6) (E := 3) (sz := 1) (l := 0) (r := 0) (m := 6) (.inr ⟨_, rfl⟩) (.inr ⟨_, rfl⟩) (.inr ⟨_, rfl⟩) (by simp) (by omega) (by omega) (by omega)) ?_)))))
  refine wpF_run 1 [(4, (.slice (pA w.heap.size 0) 0 6))] (wpF_end (then_code (wpC_seq (wpC_region (wpF_run 1 [(7, (vI n))] (wpF_step (op_call (some 8) (c_above n _ (by omega)) ?_)))))))
  rintro _ _ ⟨rfl, rfl⟩
  refine wpF_run 1 [(5, (vI (up4 n)))] (wpF_end (then_code (wpC_block (wpC_loop (X := Nat) (fun k => [(4, (.slice (pA w.heap.size 0) k 6)), (5, (vI (cnt n k)))]) [2, 9, 10, 11, 12, 13, 14, 15, 16, 17] (fun k w2 => k ≤ hgt n ∧ Blk w2 w.heap.size (((cts n).take k).map (nv .i64) ++ List.replicate (6 - k) (vI 0)) 125 ∧ Ext w w2) (fun k => hgt n - k) 0 (by kernel_rfl) ⟨by omega, hBw1, hEw1⟩ ?_))))
  rintro k dw2 w2 ⟨hk, hBl, hEl⟩
  have hzl := hEl.size; have hll := hBl.lt; have h5 := hgt_le n; have hcn := cnt_n n k
  refine wpC_seq (wpC_block (wpC_seq (wpC_region (wpF_run 2 [(12, (vI (cnt n k))), (11, (.slice (pA w.heap.size 0) k 6))] (wpF_step (op_new (some 13) (Instr.buildSlice 56 1 #[(0, (vI (cnt n k)))]) (.slice (pA w2.heap.size 0) 1 1) [(vI (cnt n k))] 3 ?_))))))
  intro w3 hBw3 hEw3
  have hzw3 := hEw3.size; have hlw3 := hBw3.lt
  have hSw3 : Es (nv .i64) w2.heap.size (w2.heap.size + 1) w3 (pA w2.heap.size 0) 1 1 ([cnt n k]) := Es.of_blk hBw3 rfl rfl (Nat.le_refl _) (by decide) (Nat.le_refl _) (Nat.lt_succ_self _)
  refine wpF_step (op_appendB (some 14) 56 56 3 1 w.heap.size k 6 ⟨w2.heap.size, 0, none⟩ 1 1 (hBl.ext hEw3) hSw3.sla rfl (by simp [nv, Value.oneCell']) (by simp [cts_length]; omega) ?_)
  intro w4 hBw4 hCw4
  have hzw4 := hCw4.size
  replace hBw4 : Blk w4 w.heap.size (((cts n).take (k + 1)).map (nv .i64) ++ List.replicate (6 - (k + 1)) (vI 0)) 125 := cts_app hk ▸ hBw4
  refine wpF_run 1 [(4, (.slice (pA w.heap.size 0) (k + 1) 6))] (wpF_end (then_code (wpC_seq (wpC_region (wpF_run 1 [(15, (vI (cnt n k)))] (wpF_step (op_split (some 16) ((((cnt n k : Nat) : Int) == ((1 : Nat) : Int))) (fun hc16 => ?_) (fun hc16 => ?_))))))))
  · replace hc16 : cnt n k = 1 := by have := of_eq_t hc16; omega
    obtain rfl := (cnt_one_iff hp0 hp1 hk).1 hc16
    refine wpF_end (then_code (wpC_true (wpC_seq (wpC_region (wpF_run 2 [(2, (.slice (pA w.heap.size 0) (hgt n + 1) 6)), (17, (.slice (pA w.heap.size 0) (hgt n + 1) 6))] (wpF_end (then_code (wpC_ret (inBlock_ret ?_)))))))))
    refine then_ret (then_ret (inBlock_ret (body_rets (.slice (pA w.heap.size 0) (hgt n + 1) 6) ?_)))
    have hBf := hBw4
    rw [List.take_of_length_le (by rw [cts_length]; omega)] at hBf
    exact ⟨_, _, rfl, Es.of_pre hBf (cts_length n).symm (by omega) (by decide) (by omega) (by omega), (Ext.own (hEl.trans hEw3) hCw4 (by omega))⟩
  · replace hc16 : ¬ (cnt n k = 1) := by have := of_eq_f hc16; omega
    have hlt : k < hgt n := by rcases Nat.lt_or_ge k (hgt n) with h | h; exact h; exact absurd ((cnt_one_iff hp0 hp1 hk).2 (by omega)) hc16
    refine wpF_end (then_code (wpC_false (wpC_skip (inBlock_normal (then_code (wpC_region (wpF_run 1 [(9, (vI (cnt n k)))] (wpF_step (op_call (some 10) (c_above (cnt n k) _ (by omega)) ?_)))))))))
    rintro _ _ ⟨rfl, rfl⟩
    refine wpF_run 1 [(5, (vI (up4 (cnt n k))))] (wpF_end (then_normal (endR_mk (k + 1) ?_ ?_)))
    · exact ⟨by omega, hBw4, (Ext.own (hEl.trans hEw3) hCw4 (by omega))⟩
    · first | omega | (dsimp only; omega)

theorem c_of (n : Nat)  (w : World) (hp0 : 1 ≤ n) (hp1 : n ≤ 4096) :
    Calls Tryd.prog 34 #[(vI n)] w (Ret fun r w' => ∃ a1 ca1, r = (.tuple #[(vA [(vI n), (.slice a1 (hgt n + 1) ca1)]), (vI 0)]) ∧ Es (nv .i64) w.heap.size w'.heap.size w' a1 (hgt n + 1) ca1 (cts n) ∧ Ext w w') := by
  refine calls_of (n := 15) (σ := [(0, (vI n))]) Tryd.func34 rfl ?_
  refine wpC_seq (wpC_region (wpF_step (op_new (some 2) (Instr.alloc 88 true (.tuple #[])) (vP w.heap.size 0) ([(vI 0), (.slice none 0 0)]) 88 ?_)))
  intro w1 hBw1 hEw1
  have hzw1 := hEw1.size; have hlw1 := hBw1.lt
  refine wpF_run 1 [(3, (vI 0))] (wpF_end (then_code (wpC_seq (wpC_seq (wpC_region (wpF_run 1 [(5, (vI n))] (wpF_step (op_call (some 6) (c_Check n _ (by omega) (by omega)) ?_))))))))
  rintro _ _ ⟨rfl, rfl⟩
  refine wpF_run 1 [(4, (vI 0))] (wpF_end (then_code (wpC_seq (wpC_region (wpF_run 2 [(8, vF), (7, (vI 0))] (wpF_end (then_code (wpC_false (wpC_skip ?_)))))))))
  refine then_code (wpC_seq (wpC_region (wpF_run 2 [(12, (vI n)), (11, (vI n))] (wpF_step (op_call (some 13) (c_counts n _ (by omega) (by omega)) ?_)))))
  rintro _ w2 ⟨a1, ca1, rfl, hFz2_0, hEw2⟩
  have hzw2 := hEw2.size
  have hlea1 := hFz2_0.le
  refine wpF_run 1 [(14, (vA [(vI n), (.slice a1 (hgt n + 1) ca1)]))] (wpF_step (op_store 88 w.heap.size 0 88 (vA [(vI n), (.slice a1 (hgt n + 1) ca1)]) ([(vI 0), (.slice none 0 0)]) ([(vI n), (.slice a1 (hgt n + 1) ca1)]) (hBw1.ext hEw2) (by kernel_rfl) (by first | decide | (simp; done) | (simp; omega)) (by simp [Value.oneCell']) ?_))
  intro w3 hBw3 hCw3
  have hzw3 := hCw3.size
  rw [setFrom_all _ _ (by kernel_rfl)] at hBw3
  exact wpF_run 1 [(3, (vI 0))] (wpF_end (then_code (wpC_ret (body_ret2 (show resVal Tryd.prog 15 _ _ (.cell 2 88) (vA [(vI n), (.slice a1 (hgt n + 1) ca1)]) from ⟨⟨w.heap.size, 0, none⟩, (by kernel_rfl), run_loadVar_agg (T := 88) (vs := [(vI n), (.slice a1 (hgt n + 1) ca1)]) (hBw3).all (by kernel_rfl)⟩) (show resVal Tryd.prog 15 _ _ (.tmp 3) (vI 0) by (show _ = _; kernel_rfl)) (⟨_, _, rfl, (((hFz2_0).chg hCw3 (fun k h1 h2 hs => by have h : k = _ := hs; omega))).now.mono (by omega) (Nat.le_refl _), (Ext.own (hEw1.trans hEw2) hCw3 (by omega))⟩)))))


end Go.Proofs.YthjplefmfjkhfaaDoor
