/- CsS11: what each function does, by its own code. No condition beyond those of each statement. -/
import Derived.Test.YtpcbhalagllhnaaCsS7
namespace Go.Proofs.Ytpcbhalagllhnaa
open Go Go.RowKit Go.Cs
set_option maxRecDepth 100000
set_option linter.all false
set_option linter.unusedVariables false

theorem c_ShapesKnown   (w : World)  :
    Calls Try.prog 6 #[] w (Ret fun r w' => r = vT ∧ Ext w w') := by
  refine calls_of (n := 147) (σ := []) Try.func6 rfl ?_
  refine wpC_seq (wpC_region (wpF_run 1 [(0, vF)] (wpF_end (then_code (wpC_seq (wpC_region (wpF_step (op_call (some 23) (c_Sectors 4096 _ (by first | omega | decide) (by first | omega | decide)) ?_))))))))
  rintro _ w1 ⟨rfl, hEw1⟩
  have hzw1 := hEw1.size
  rw [show bas 4096 (hgt 4096 + 1) = 10922 from by kernel_rfl]
  refine wpF_run 5 [(2, (vI 0)), (1, (vI 10922)), (25, (vI 0)), (24, (vI 10922)), (22, (.tuple #[(vI 10922), (vI 0)]))] (wpF_end (then_code (wpC_seq (wpC_region (wpF_step (op_call (some 27) (c_Total 4096 _ (by first | omega | decide) (by first | omega | decide)) ?_))))))
  rintro _ w2 ⟨rfl, hEw2⟩
  have hzw2 := hEw2.size
  rw [show tot 4096 = 1365 from by kernel_rfl]
  refine wpF_run 5 [(4, (vI 0)), (3, (vI 1365)), (29, (vI 0)), (28, (vI 1365)), (26, (.tuple #[(vI 1365), (vI 0)]))] (wpF_end (then_code (wpC_seq (wpC_region (wpF_step (op_call (some 31) (c_Sectors 1 _ (by first | omega | decide) (by first | omega | decide)) ?_))))))
  rintro _ w3 ⟨rfl, hEw3⟩
  have hzw3 := hEw3.size
  rw [show bas 1 (hgt 1 + 1) = 4 from by kernel_rfl]
  refine wpF_run 5 [(6, (vI 0)), (5, (vI 4)), (33, (vI 0)), (32, (vI 4)), (30, (.tuple #[(vI 4), (vI 0)]))] (wpF_end (then_code (wpC_seq (wpC_region (wpF_step (op_call (some 35) (c_OfNode 4096 10921 _ (by first | omega | decide) (by first | omega | decide) (by first | omega | decide) (by first | omega | decide)) ?_))))))
  rintro _ w4 ⟨rfl, hEw4⟩
  have hzw4 := hEw4.size
  rw [show lev 4096 10921 = 5 from by kernel_rfl]
  rw [show (10921 - bas 4096 5) / 2 = 0 from by kernel_rfl]
  rw [show (10921 - bas 4096 5) % 2 = 1 from by kernel_rfl]
  refine wpF_run 3 [(37, (vI 0)), (36, (vA [vF, (vI 5), (vI 0), (vI 1)])), (34, (.tuple #[(vA [vF, (vI 5), (vI 0), (vI 1)]), (vI 0)]))] (wpF_step (op_new (some 7) (Instr.alloc 31 true (.tuple #[])) (vP w4.heap.size 0) ([vF, (vI 0), (vI 0), (vI 0)]) 31 ?_))
  intro w5 hBw5 hEw5
  have hzw5 := hEw5.size; have hlw5 := hBw5.lt
  refine wpF_step (op_store 31 w4.heap.size 0 31 (vA [vF, (vI 5), (vI 0), (vI 1)]) ([vF, (vI 0), (vI 0), (vI 0)]) ([vF, (vI 5), (vI 0), (vI 1)]) hBw5 (by kernel_rfl) (by first | decide | (simp; done) | (simp; omega)) (by simp [Value.oneCell']) ?_)
  intro w6 hBw6 hCw6
  have hzw6 := hCw6.size
  rw [setFrom_all _ _ (by kernel_rfl)] at hBw6
  refine wpF_run 1 [(8, (vI 0))] (wpF_end (then_code (wpC_seq (wpC_seq (wpC_region (wpF_run 11 [(48, vF), (47, vF), (46, vF), (45, (vI 4)), (44, vF), (43, vF), (42, vF), (41, (vI 1365)), (40, vF), (39, vF), (38, (vI 10922))] (wpF_step (op_v (some 49) (Instr.loadAt 31 (vP w4.heap.size 0)) (vA [vF, (vI 5), (vI 0), (vI 1)]) (rn_lda (vs := [vF, (vI 5), (vI 0), (vI 1)]) (hBw6.all)) ?_))))))))
  refine wpF_run 1 [(50, (vA [vF, (vI 5), (vI 0), (vI 1)]))] (wpF_step (op_v (some 51) (bo .neq 31 (.tmp 49) (.tmp 50) (vA [vF, (vI 5), (vI 0), (vI 1)]) (vA [vF, (vI 5), (vI 0), (vI 1)])) vF (run_neqAgg (r := true) (T := 31) ((run_eq_flat (dd := 9998) (t := 31) [vF, (vI 5), (vI 0), (vI 1)] [vF, (vI 5), (vI 0), (vI 1)]).trans (congrArg (fun b => Result.ok b _) (show (eqvs [vF, (vI 5), (vI 0), (vI 1)] [vF, (vI 5), (vI 0), (vI 1)]) = true from by kernel_rfl)))) ?_))
  refine wpF_run 4 [(55, (vI 0)), (54, (vI 0)), (53, vF), (52, vF)] (wpF_step (op_in (some 56) .i64 (IntKind.i64.wrap (((0 : Nat) : Int) + ((0 : Nat) : Int))) 0 (wrapS (by omega) (by omega) (by omega)) ?_))
  refine wpF_run 1 [(57, (vI 0))] (wpF_step (op_in (some 58) .i64 (IntKind.i64.wrap (((0 : Nat) : Int) + ((0 : Nat) : Int))) 0 (wrapS (by omega) (by omega) (by omega)) ?_))
  refine wpF_run 1 [(59, (vI 0))] (wpF_step (op_in (some 60) .i64 (IntKind.i64.wrap (((0 : Nat) : Int) + ((0 : Nat) : Int))) 0 (wrapS (by omega) (by omega) (by omega)) ?_))
  refine wpF_run 3 [(63, vF), (62, vF), (61, vF)] (wpF_step (op_call (some 64) (c_CheckBad ((4097 : Nat) : Int) _ (by first | omega | decide)) ?_))
  rintro _ _ ⟨rfl, rfl⟩
  refine wpF_run 3 [(67, vF), (66, vF), (65, vF)] (wpF_step (op_call (some 68) (c_CheckBad ((0 : Nat) : Int) _ (by first | omega | decide)) ?_))
  rintro _ _ ⟨rfl, rfl⟩
  refine wpF_run 2 [(70, vF), (69, vF)] (wpF_end (then_code (wpC_false (wpC_skip (then_code (wpC_seq (wpC_seq (wpC_region (wpF_run 1 [(9, (vI 1))] ?_)))))))))
  refine wpF_end (then_code (wpC_block (wpC_loop (X := Nat) (fun n => [(9, (vI n))]) [0, 10, 11, 12, 13, 14, 15, 16, 17, 18, 19, 20, 21, 71, 72, 73, 74, 75, 76, 77, 78, 79, 80, 81, 82, 83, 84, 85, 86, 87, 88, 89, 90, 91, 92, 93, 94, 95, 96, 97, 98, 99, 100, 101, 102, 103, 104, 105, 106, 107, 108, 109, 110, 111, 112, 113, 114, 115, 116, 117, 118, 119, 120, 121, 122, 123, 124, 125, 126, 127, 128, 129, 130, 131, 132, 133, 134, 135, 136, 137, 138, 139, 140, 141, 142, 143, 144, 145] (fun n w7 => (1 ≤ n ∧ n ≤ 91) ∧ Ext w6 w7) (fun n => 91 - n) 1 (by kernel_rfl) ⟨by omega, Ext.refl _⟩ ?_)))
  rintro n dw7 w7 ⟨h_n, hEn⟩
  have hzn := hEn.size
  have h5 := hgt_le n
  refine wpC_seq (wpC_seq (wpC_region (wpF_run 1 [(71, (vI n))] (wpF_step (op_split (some 72) (decide (((n : Nat) : Int) ≤ ((90 : Nat) : Int))) (fun hc72 => ?_) (fun hc72 => ?_))))))
  · replace hc72 : n ≤ 90 := by have := of_d_t hc72; omega
    refine wpF_end (then_code (wpC_true (wpC_skip (then_code (wpC_seq (wpC_block (wpC_seq (wpC_region (wpF_run 1 [(10, (vI 0))] ?_)))))))))
    refine wpF_end (then_code (wpC_seq (wpC_seq (wpC_region (wpF_run 1 [(11, (vI 0))] (wpF_end (then_code (wpC_block (wpC_loop (X := Nat) (fun i => [(10, (vI (2 * i))), (11, (vI i))]) [0, 12, 13, 14, 75, 76, 77, 78, 79, 80, 81, 82, 83, 84, 85, 86, 87, 88, 89, 90, 91, 92, 93, 94, 95, 96, 97, 98, 99] (fun i w8 => i ≤ n ∧ Ext w7 w8) (fun i => n - i) 0 (by kernel_rfl) ⟨by omega, Ext.refl _⟩ ?_)))))))))
    rintro i dw8 w8 ⟨h_i, hEi⟩
    have hzi := hEi.size
    refine wpC_seq (wpC_seq (wpC_region (wpF_run 2 [(76, (vI n)), (75, (vI i))] (wpF_step (op_split (some 77) (decide (((i : Nat) : Int) < ((n : Nat) : Int))) (fun hc77 => ?_) (fun hc77 => ?_))))))
    · replace hc77 : i < n := by have := of_d_t hc77; omega
      refine wpF_end (then_code (wpC_true (wpC_skip (then_code (wpC_seq (wpC_block (wpC_seq (wpC_region (wpF_run 1 [(12, (vI 0))] ?_)))))))))
      refine wpF_end (then_code (wpC_block (wpC_loop (X := Nat) (fun s => [(10, (vI (2 * i + s))), (12, (vI s))]) [0, 13, 14, 80, 81, 82, 83, 84, 85, 86, 87, 88, 89, 90, 91, 92, 93, 94, 95, 96, 97, 98, 99] (fun s w9 => s ≤ 2 ∧ Ext w8 w9) (fun s => 2 - s) 0 (by kernel_rfl) ⟨by omega, Ext.refl _⟩ ?_)))
      rintro s dw9 w9 ⟨h_s, hEs⟩
      have hzs := hEs.size
      refine wpC_seq (wpC_seq (wpC_region (wpF_run 1 [(80, (vI s))] (wpF_step (op_split (some 81) (decide (((s : Nat) : Int) < ((2 : Nat) : Int))) (fun hc81 => ?_) (fun hc81 => ?_))))))
      · replace hc81 : s < 2 := by have := of_d_t hc81; omega
        refine wpF_end (then_code (wpC_true (wpC_skip (then_code (wpC_seq (wpC_block (wpC_seq (wpC_region (wpF_run 3 [(87, (vI s)), (86, (vI i)), (85, (vI n))] ?_)))))))))
        refine wpF_step (op_call (some 88) (c_Data n i s _ (by omega) (by omega) (by omega) (by omega)) ?_)
        rintro _ w10 ⟨rfl, hEw10⟩
        have hzw10 := hEw10.size
        refine wpF_run 5 [(14, (vI 0)), (13, (vI (2 * i + s))), (90, (vI 0)), (89, (vI (2 * i + s))), (84, (.tuple #[(vI (2 * i + s)), (vI 0)]))] (wpF_end (then_code (wpC_seq (wpC_seq (wpC_region (wpF_run 1 [(91, (vI 0))] (wpF_step (op_b (some 92) (((0 : Nat) : Int) != ((0 : Nat) : Int)) false (cmpNeF (by omega)) ?_))))))))
        refine wpF_run 3 [(95, (vI (2 * i + s))), (94, (vI (2 * i + s))), (93, vF)] (wpF_step (op_b (some 96) (((2 * i + s : Nat) : Int) != ((2 * i + s : Nat) : Int)) false (cmpNeF (by omega)) ?_))
        refine wpF_run 1 [(97, vF)] (wpF_end (then_code (wpC_false (wpC_skip (then_code (wpC_region (wpF_run 1 [(98, (vI (2 * i + s)))] (wpF_step (op_in (some 99) .i64 (IntKind.i64.wrap (((2 * i + s : Nat) : Int) + ((1 : Nat) : Int))) (2 * i + s + 1) (wrapS (by omega) (by omega) (by omega)) ?_)))))))))
        refine wpF_run 1 [(10, (vI (2 * i + s + 1)))] (wpF_end (inBlock_normal (then_code (wpC_region (wpF_run 1 [(82, (vI s))] (wpF_step (op_in (some 83) .i64 (IntKind.i64.wrap (((s : Nat) : Int) + ((1 : Nat) : Int))) (s + 1) (wrapS (by omega) (by omega) (by omega)) ?_)))))))
        refine wpF_run 1 [(12, (vI (s + 1)))] (wpF_end (then_normal (endR_mk (s + 1) ?_ ?_)))
        · exact ⟨by omega, (hEs.trans hEw10)⟩
        · first | omega | (dsimp only; omega)
      · replace hc81 : ¬ (s < 2) := by have := of_d_f hc81; omega
        obtain rfl : s = 2 := by omega
        refine wpF_end (then_code (wpC_false (wpC_exit (then_exit (then_exit (inBlock_exit (inBlock_normal (then_code (wpC_region ?_)))))))))
        refine wpF_run 1 [(78, (vI i))] (wpF_step (op_in (some 79) .i64 (IntKind.i64.wrap (((i : Nat) : Int) + ((1 : Nat) : Int))) (i + 1) (wrapS (by omega) (by omega) (by omega)) ?_))
        refine wpF_run 1 [(11, (vI (i + 1)))] (wpF_end (then_normal (endR_mk (i + 1) ?_ ?_)))
        · exact ⟨by omega, (hEi.trans hEs)⟩
        · first | omega | (dsimp only; omega)
    · replace hc77 : ¬ (i < n) := by have := of_d_f hc77; omega
      obtain rfl : n = i := by omega
      refine wpF_end (then_code (wpC_false (wpC_exit (then_exit (then_exit (inBlock_exit (then_code (wpC_seq (wpC_seq ?_)))))))))
      refine wpC_region (wpF_run 1 [(15, (vI 0))] (wpF_end (then_code (wpC_block (wpC_loop (X := Nat) (fun l => [(10, (vI (bas n l))), (15, (vI l))]) [0, 16, 17, 18, 19, 100, 101, 102, 103, 104, 105, 106, 107, 108, 109, 110, 111, 112, 113, 114, 115, 116, 117, 118, 119, 120, 121, 122, 123, 124, 125, 126, 127, 128, 129, 130, 131, 132, 133] (fun l w11 => l ≤ hgt n + 1 ∧ Ext w8 w11) (fun l => hgt n + 1 - l) 0 (by kernel_rfl) ⟨by omega, Ext.refl _⟩ ?_)))))
      rintro l dw11 w11 ⟨h_l, hEl⟩
      have hzl := hEl.size
      have hcn := cnt_n n l
      have hbs := bas_small (n := n) (l := l) (by omega) (by omega)
      refine wpC_seq (wpC_seq (wpC_region (wpF_run 2 [(101, (vI n)), (100, (vI l))] (wpF_step (op_call (some 102) (c_rHeight n _ (by omega) (by omega)) ?_)))))
      rintro _ _ ⟨rfl, rfl⟩
      refine wpF_step (op_split (some 103) (decide (((l : Nat) : Int) ≤ ((hgt n : Nat) : Int))) (fun hc103 => ?_) (fun hc103 => ?_))
      · replace hc103 : l ≤ hgt n := by have := of_d_t hc103; omega
        refine wpF_end (then_code (wpC_true (wpC_skip (then_code (wpC_seq (wpC_block (wpC_seq (wpC_region (wpF_run 1 [(16, (vI 0))] ?_)))))))))
        refine wpF_end (then_code (wpC_block (wpC_loop (X := Nat) (fun j => [(10, (vI (bas n l + 2 * j))), (16, (vI j))]) [0, 17, 18, 19, 106, 107, 108, 109, 110, 111, 112, 113, 114, 115, 116, 117, 118, 119, 120, 121, 122, 123, 124, 125, 126, 127, 128, 129, 130, 131, 132, 133] (fun j w12 => j ≤ cnt n l ∧ Ext w11 w12) (fun j => cnt n l - j) 0 (by kernel_rfl) ⟨by omega, Ext.refl _⟩ ?_)))
        rintro j dw12 w12 ⟨h_j, hEj⟩
        have hzj := hEj.size
        refine wpC_seq (wpC_seq (wpC_region (wpF_run 3 [(108, (vI l)), (107, (vI n)), (106, (vI j))] (wpF_step (op_call (some 109) (c_rCount n l _ (by omega) (by omega) (by omega)) ?_)))))
        rintro _ _ ⟨rfl, rfl⟩
        refine wpF_step (op_split (some 110) (decide (((j : Nat) : Int) < ((cnt n l : Nat) : Int))) (fun hc110 => ?_) (fun hc110 => ?_))
        · replace hc110 : j < cnt n l := by have := of_d_t hc110; omega
          refine wpF_end (then_code (wpC_true (wpC_skip (then_code (wpC_seq (wpC_block (wpC_seq (wpC_region (wpF_run 1 [(17, (vI 0))] ?_)))))))))
          refine wpF_end (then_code (wpC_block (wpC_loop (X := Nat) (fun s => [(10, (vI (bas n l + 2 * j + s))), (17, (vI s))]) [0, 18, 19, 113, 114, 115, 116, 117, 118, 119, 120, 121, 122, 123, 124, 125, 126, 127, 128, 129, 130, 131, 132, 133] (fun s w13 => s ≤ 2 ∧ Ext w12 w13) (fun s => 2 - s) 0 (by kernel_rfl) ⟨by omega, Ext.refl _⟩ ?_)))
          rintro s dw13 w13 ⟨h_s, hEs⟩
          have hzs := hEs.size
          refine wpC_seq (wpC_seq (wpC_region (wpF_run 1 [(113, (vI s))] (wpF_step (op_split (some 114) (decide (((s : Nat) : Int) < ((2 : Nat) : Int))) (fun hc114 => ?_) (fun hc114 => ?_))))))
          · replace hc114 : s < 2 := by have := of_d_t hc114; omega
            refine wpF_end (then_code (wpC_true (wpC_skip (then_code (wpC_seq (wpC_block (wpC_seq (wpC_region (wpF_run 4 [(121, (vI s)), (120, (vI j)), (119, (vI l)), (118, (vI n))] ?_)))))))))
            refine wpF_step (op_call (some 122) (c_Node n l j s _ (by omega) (by omega) (by omega) (by omega) (by omega)) ?_)
            rintro _ w14 ⟨rfl, hEw14⟩
            have hzw14 := hEw14.size
            refine wpF_run 5 [(19, (vI 0)), (18, (vI (bas n l + 2 * j + s))), (124, (vI 0)), (123, (vI (bas n l + 2 * j + s))), (117, (.tuple #[(vI (bas n l + 2 * j + s)), (vI 0)]))] (wpF_end (then_code (wpC_seq (wpC_seq (wpC_region (wpF_run 1 [(125, (vI 0))] (wpF_step (op_b (some 126) (((0 : Nat) : Int) != ((0 : Nat) : Int)) false (cmpNeF (by omega)) ?_))))))))
            refine wpF_run 3 [(129, (vI (bas n l + 2 * j + s))), (128, (vI (bas n l + 2 * j + s))), (127, vF)] (wpF_step (op_b (some 130) (((bas n l + 2 * j + s : Nat) : Int) != ((bas n l + 2 * j + s : Nat) : Int)) false (cmpNeF (by omega)) ?_))
            refine wpF_run 1 [(131, vF)] (wpF_end (then_code (wpC_false (wpC_skip (then_code (wpC_region (wpF_run 1 [(132, (vI (bas n l + 2 * j + s)))] (wpF_step (op_in (some 133) .i64 (IntKind.i64.wrap (((bas n l + 2 * j + s : Nat) : Int) + ((1 : Nat) : Int))) (bas n l + 2 * j + s + 1) (wrapS (by omega) (by omega) (by omega)) ?_)))))))))
            refine wpF_run 1 [(10, (vI (bas n l + 2 * j + s + 1)))] (wpF_end (inBlock_normal (then_code (wpC_region (wpF_run 1 [(115, (vI s))] (wpF_step (op_in (some 116) .i64 (IntKind.i64.wrap (((s : Nat) : Int) + ((1 : Nat) : Int))) (s + 1) (wrapS (by omega) (by omega) (by omega)) ?_)))))))
            refine wpF_run 1 [(17, (vI (s + 1)))] (wpF_end (then_normal (endR_mk (s + 1) ?_ ?_)))
            · exact ⟨by omega, (hEs.trans hEw14)⟩
            · first | omega | (dsimp only; omega)
          · replace hc114 : ¬ (s < 2) := by have := of_d_f hc114; omega
            obtain rfl : s = 2 := by omega
            refine wpF_end (then_code (wpC_false (wpC_exit (then_exit (then_exit (inBlock_exit (inBlock_normal (then_code (wpC_region ?_)))))))))
            refine wpF_run 1 [(111, (vI j))] (wpF_step (op_in (some 112) .i64 (IntKind.i64.wrap (((j : Nat) : Int) + ((1 : Nat) : Int))) (j + 1) (wrapS (by omega) (by omega) (by omega)) ?_))
            refine wpF_run 1 [(16, (vI (j + 1)))] (wpF_end (then_normal (endR_mk (j + 1) ?_ ?_)))
            · exact ⟨by omega, (hEj.trans hEs)⟩
            · first | omega | (dsimp only; omega)
        · replace hc110 : ¬ (j < cnt n l) := by have := of_d_f hc110; omega
          obtain rfl : j = cnt n l := by omega
          refine wpF_end (then_code (wpC_false (wpC_exit (then_exit (then_exit (inBlock_exit (inBlock_normal (then_code (wpC_region ?_)))))))))
          refine wpF_run 1 [(104, (vI l))] (wpF_step (op_in (some 105) .i64 (IntKind.i64.wrap (((l : Nat) : Int) + ((1 : Nat) : Int))) (l + 1) (wrapS (by omega) (by omega) (by omega)) ?_))
          refine wpF_run 1 [(15, (vI (l + 1)))] (wpF_end (then_normal (endR_mk (l + 1) ?_ ?_)))
          · exact ⟨by omega, (hEl.trans hEj)⟩
          · first | omega | (dsimp only; omega)
      · replace hc103 : ¬ (l ≤ hgt n) := by have := of_d_f hc103; omega
        obtain rfl : l = hgt n + 1 := by omega
        refine wpF_end (then_code (wpC_false (wpC_exit (then_exit (then_exit (inBlock_exit (then_code (wpC_seq (wpC_region ?_)))))))))
        refine wpF_run 1 [(135, (vI n))] (wpF_step (op_call (some 136) (c_Sectors n _ (by omega) (by omega)) ?_))
        rintro _ w15 ⟨rfl, hEw15⟩
        have hzw15 := hEw15.size
        refine wpF_run 5 [(21, (vI 0)), (20, (vI (bas n (hgt n + 1)))), (138, (vI 0)), (137, (vI (bas n (hgt n + 1)))), (134, (.tuple #[(vI (bas n (hgt n + 1))), (vI 0)]))] (wpF_end (then_code (wpC_seq (wpC_region (wpF_run 1 [(139, (vI 0))] (wpF_step (op_b (some 140) (((0 : Nat) : Int) != ((0 : Nat) : Int)) false (cmpNeF (by omega)) ?_)))))))
        refine wpF_run 3 [(143, (vI (bas n (hgt n + 1)))), (142, (vI (bas n (hgt n + 1)))), (141, vF)] (wpF_step (op_b (some 144) (((bas n (hgt n + 1) : Nat) : Int) != ((bas n (hgt n + 1) : Nat) : Int)) false (cmpNeF (by omega)) ?_))
        refine wpF_run 1 [(145, vF)] (wpF_end (then_code (wpC_false (wpC_skip (inBlock_normal (then_code (wpC_region (wpF_run 1 [(73, (vI n))] (wpF_step (op_in (some 74) .i64 (IntKind.i64.wrap (((n : Nat) : Int) + ((1 : Nat) : Int))) (n + 1) (wrapS (by omega) (by omega) (by omega)) ?_))))))))))
        refine wpF_run 1 [(9, (vI (n + 1)))] (wpF_end (then_normal ?_))
        have hX1 : Ext w6 w15 := (((hEn.trans hEi).trans hEl).trans hEw15)
        refine endR_mk (n + 1) ?_ ?_
        · exact ⟨by omega, hX1⟩
        · first | omega | (dsimp only; omega)
  · replace hc72 : ¬ (n ≤ 90) := by have := of_d_f hc72; omega
    refine wpF_end (then_code (wpC_false (wpC_exit (then_exit (then_exit (inBlock_exit (then_code (wpC_seq (wpC_region ?_)))))))))
    refine wpF_step (op_call (some 146) (c_lives12 _) ?_)
    rintro _ w16 ⟨rfl, hEw16⟩
    have hzw16 := hEw16.size
    refine wpF_run 1 [(0, vT)] (wpF_end (then_code (wpC_ret (body_rets vT ?_))))
    have hX2 : Ext w w16 := (((Ext.own ((((hEw1.trans hEw2).trans hEw3).trans hEw4).trans hEw5) hCw6 (by omega)).trans hEn).trans hEw16)
    exact ⟨rfl, hX2⟩

end Go.Proofs.Ytpcbhalagllhnaa
