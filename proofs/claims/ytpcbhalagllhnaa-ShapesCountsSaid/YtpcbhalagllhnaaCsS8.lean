/- CsS8: what each function does, by its own code. No condition beyond those of each statement. -/
import Derived.Test.YtpcbhalagllhnaaCsS7
namespace Go.Proofs.Ytpcbhalagllhnaa
open Go Go.RowKit Go.Cs
set_option maxRecDepth 100000
set_option linter.all false
set_option linter.unusedVariables false

theorem c_ShapesCounts (k : Nat) (f : Nat)  (w : World) (hp0 : k < 65536) (hp1 : f < 65536) :
    Calls Try.prog 4 #[(vA [(vH k)]), (vH f)] w (Ret fun r w' => r = vT ∧ Ext w w') := by
  refine calls_of (n := 146) (σ := [(0, (vA [(vH k)])), (1, (vH f))]) Try.func4 rfl ?_
  have hn1 := nof_pos k
  have hn2 := nof_le k
  have h5 := hgt_le (nof k)
  refine wpC_seq (wpC_region (wpF_step (op_new (some 2) (Instr.box 24 (vA [(vH k)])) (vP w.heap.size 0) ([(vH k)]) 24 ?_)))
  intro w1 hBw1 hEw1
  have hzw1 := hEw1.size; have hlw1 := hBw1.lt
  refine wpF_run 1 [(4, vF)] (wpF_end (then_code (wpC_seq (wpC_region (wpF_step (op_v (some 19) (Instr.loadAt 24 (vP w.heap.size 0)) (vA [(vH k)]) (rn_lda (vs := [(vH k)]) (hBw1.all)) ?_))))))
  refine wpF_step (op_call (some 20) (c_NOf k _ (by omega)) ?_)
  rintro _ w2 ⟨rfl, hEw2⟩
  have hzw2 := hEw2.size
  refine wpF_run 1 [(5, (vI (nof k)))] (wpF_end (then_code (wpC_seq (wpC_region (wpF_run 1 [(22, (vI (nof k)))] (wpF_step (op_call (some 23) (c_Height (nof k) _ (by omega) (by omega)) ?_)))))))
  rintro _ w3 ⟨rfl, hEw3⟩
  have hzw3 := hEw3.size
  refine wpF_run 5 [(7, (vI 0)), (6, (vI (hgt (nof k)))), (25, (vI 0)), (24, (vI (hgt (nof k)))), (21, (.tuple #[(vI (hgt (nof k))), (vI 0)]))] (wpF_end (then_code (wpC_seq (wpC_seq (wpC_region (wpF_run 1 [(26, (vI 0))] (wpF_step (op_b (some 27) (((0 : Nat) : Int) != ((0 : Nat) : Int)) false (cmpNeF (by omega)) ?_))))))))
  refine wpF_run 2 [(29, (vI (nof k))), (28, vF)] (wpF_step (op_call (some 30) (c_Check (nof k) _ (by omega) (by omega)) ?_))
  rintro _ _ ⟨rfl, rfl⟩
  refine wpF_step (op_b (some 31) (((0 : Nat) : Int) != ((0 : Nat) : Int)) false (cmpNeF (by omega)) ?_)
  refine wpF_run 4 [(35, (vI (nof k))), (34, (vI (hgt (nof k)))), (33, vF), (32, vF)] (wpF_step (op_call (some 36) (c_rHeight (nof k) _ (by omega) (by omega)) ?_))
  rintro _ _ ⟨rfl, rfl⟩
  refine wpF_step (op_b (some 37) (((hgt (nof k) : Nat) : Int) != ((hgt (nof k) : Nat) : Int)) false (cmpNeF (by omega)) ?_)
  refine wpF_run 1 [(38, vF)] (wpF_end (then_code (wpC_false (wpC_skip (then_code (wpC_seq (wpC_region (wpF_run 1 [(8, (vI 0))] (wpF_end ?_)))))))))
  refine then_code (wpC_seq (wpC_region (wpF_run 2 [(9, (vI (nof k))), (39, (vI (nof k)))] (wpF_end (then_code (wpC_seq (wpC_seq (wpC_region (wpF_run 1 [(10, (vI 0))] ?_)))))))))
  refine wpF_end (then_code (wpC_block (wpC_loop (X := Nat) (fun l => [(8, (vI (num (nof k) l))), (9, (vI (und (nof k) l))), (10, (vI l))]) [4, 11, 12, 13, 14, 15, 16, 17, 40, 41, 42, 43, 44, 45, 46, 47, 48, 49, 50, 51, 52, 53, 54, 55, 56, 57, 58, 59, 60, 61, 62, 63, 64, 65, 66, 67, 68, 69, 70, 71, 72, 73, 74, 75, 76, 77, 78, 79, 80, 81, 82, 83, 84, 85, 86, 87, 88, 89, 90, 91, 92, 93, 94, 95, 96, 97, 98, 99, 100, 101, 102, 103, 104, 105, 106, 107, 108, 109, 110, 111, 112, 113, 114, 115, 116, 117, 118, 119, 120, 121, 122, 123, 124, 125, 126, 127, 128, 129, 130] (fun l w4 => l ≤ hgt (nof k) + 1 ∧ Ext w3 w4) (fun l => hgt (nof k) + 1 - l) 0 (by kernel_rfl) ⟨by omega, Ext.refl _⟩ ?_)))
  rintro l dw4 w4 ⟨hl, hEl⟩
  have hzl := hEl.size
  have hun := und_n (nof k) l
  have hcn := cnt_n (nof k) l
  have hcp := cnt_pos hn1 l
  have hnu := num_small (l := l) hn2 (by omega)
  refine wpC_seq (wpC_seq (wpC_region (wpF_run 2 [(41, (vI (hgt (nof k)))), (40, (vI l))] (wpF_step (op_split (some 42) (decide (((l : Nat) : Int) ≤ ((hgt (nof k) : Nat) : Int))) (fun hc42 => ?_) (fun hc42 => ?_))))))
  · replace hc42 : l ≤ hgt (nof k) := by have := of_d_t hc42; omega
    refine wpF_end (then_code (wpC_true (wpC_skip (then_code (wpC_seq (wpC_block (wpC_seq (wpC_region (wpF_run 2 [(47, (vI l)), (46, (vI (nof k)))] ?_)))))))))
    refine wpF_step (op_call (some 48) (c_Count (nof k) l _ (by omega) (by omega) (by omega)) ?_)
    rintro _ w5 ⟨rfl, hEw5⟩
    have hzw5 := hEw5.size
    refine wpF_run 5 [(12, (vI 0)), (11, (vI (cnt (nof k) l))), (50, (vI 0)), (49, (vI (cnt (nof k) l))), (45, (.tuple #[(vI (cnt (nof k) l)), (vI 0)]))] (wpF_end (then_code (wpC_seq (wpC_seq (wpC_region (wpF_run 1 [(51, (vI 0))] (wpF_step (op_b (some 52) (((0 : Nat) : Int) != ((0 : Nat) : Int)) false (cmpNeF (by omega)) ?_))))))))
    refine wpF_run 2 [(54, (vI (cnt (nof k) l))), (53, vF)] (wpF_step (op_b (some 55) (decide (((cnt (nof k) l : Nat) : Int) < ((1 : Nat) : Int))) false (cmpDF (by omega)) ?_))
    refine wpF_run 5 [(60, (vI l)), (59, (vI (nof k))), (58, (vI (cnt (nof k) l))), (57, vF), (56, vF)] (wpF_step (op_call (some 61) (c_rCount (nof k) l _ (by omega) (by omega) (by omega)) ?_))
    rintro _ _ ⟨rfl, rfl⟩
    refine wpF_step (op_b (some 62) (((cnt (nof k) l : Nat) : Int) != ((cnt (nof k) l : Nat) : Int)) false (cmpNeF (by omega)) ?_)
    refine wpF_run 4 [(66, (vI (und (nof k) l))), (65, (vI (cnt (nof k) l))), (64, vF), (63, vF)] (wpF_step (op_in (some 67) .i64 (IntKind.i64.wrap (((und (nof k) l : Nat) : Int) + ((3 : Nat) : Int))) (und (nof k) l + 3) (wrapS (by omega) (by omega) (by omega)) ?_))
    refine wpF_step (op_in (some 68) .i64 (IntKind.i64.wrap (((und (nof k) l + 3 : Nat) : Int).tdiv ((4 : Nat) : Int))) (cnt (nof k) l) (wrapS (tdivN _ _) (by omega) (by omega)) ?_)
    refine wpF_step (op_b (some 69) (((cnt (nof k) l : Nat) : Int) != ((cnt (nof k) l : Nat) : Int)) false (cmpNeF (by omega)) ?_)
    refine wpF_run 1 [(70, vF)] (wpF_end (then_code (wpC_false (wpC_skip (then_code (wpC_seq (wpC_seq (wpC_region (wpF_run 1 [(13, (vI 0))] ?_)))))))))
    refine wpF_end (then_code (wpC_block (wpC_loop (X := Nat) (fun v => [(13, (vI v))]) [4, 14, 15, 16, 71, 72, 73, 74, 75, 76, 77, 78, 79, 80, 81, 82, 83, 84, 85, 86, 87, 88, 89, 90, 91, 92, 93, 94, 95, 96, 97, 98, 99, 100, 101, 102, 103, 104, 105, 106, 107] (fun v w6 => v ≤ 40 ∧ Ext w5 w6) (fun v => 40 - v) 0 (by kernel_rfl) ⟨by omega, Ext.refl _⟩ ?_)))
    rintro v dw6 w6 ⟨hv, hEi⟩
    have hzi := hEi.size
    have hjm := Nat.mod_lt (f + v) (show 0 < cnt (nof k) l by omega)
    refine wpC_seq (wpC_seq (wpC_region (wpF_run 1 [(71, (vI v))] (wpF_step (op_split (some 72) (decide (((v : Nat) : Int) < ((40 : Nat) : Int))) (fun hc72 => ?_) (fun hc72 => ?_))))))
    · replace hc72 : v < 40 := by have := of_d_t hc72; omega
      refine wpF_end (then_code (wpC_true (wpC_skip (then_code (wpC_seq (wpC_block (wpC_seq (wpC_region (wpF_run 1 [(75, (vH f))] ?_)))))))))
      refine wpF_step (op_in (some 76) .i64 (IntKind.i64.wrap ((f : Nat) : Int)) f (wrapS rfl (by omega) (by omega)) ?_)
      refine wpF_run 1 [(77, (vI v))] (wpF_step (op_in (some 78) .i64 (IntKind.i64.wrap (((f : Nat) : Int) + ((v : Nat) : Int))) (f + v) (wrapS (by omega) (by omega) (by omega)) ?_))
      refine wpF_run 1 [(79, (vI (cnt (nof k) l)))] (wpF_step (op_v (some 80) (bo .rem 3 (.tmp 78) (.tmp 79) (vI (f + v)) (vI (cnt (nof k) l))) (vI ((f + v) % (cnt (nof k) l))) (run_rem (by omega)) ?_))
      obtain ⟨j, hj⟩ : ∃ j, j = (f + v) % (cnt (nof k) l) := ⟨_, rfl⟩
      rw [← hj] at hjm ⊢
      refine wpF_run 1 [(14, (vI j))] (wpF_end (then_code (wpC_seq (wpC_region (wpF_run 3 [(84, (vI j)), (83, (vI l)), (82, (vI (nof k)))] (wpF_step (op_call (some 85) (c_Parts (nof k) l j _ (by omega) (by omega) (by omega) (by omega)) ?_)))))))
      rintro _ w7 ⟨rfl, hEw7⟩
      have hzw7 := hEw7.size
      refine wpF_run 5 [(16, (vI 0)), (15, (vI (prt (nof k) l j))), (87, (vI 0)), (86, (vI (prt (nof k) l j))), (81, (.tuple #[(vI (prt (nof k) l j)), (vI 0)]))] (wpF_end (then_code (wpC_seq (wpC_region (wpF_run 1 [(88, (vI 0))] (wpF_step (op_b (some 89) (((0 : Nat) : Int) != ((0 : Nat) : Int)) false (cmpNeF (by omega)) ?_)))))))
      refine wpF_run 5 [(94, (vI j)), (93, (vI l)), (92, (vI (nof k))), (91, (vI (prt (nof k) l j))), (90, vF)] (wpF_step (op_call (some 95) (c_rParts (nof k) l j _ (by omega) (by omega) (by omega) (by omega)) ?_))
      rintro _ _ ⟨rfl, rfl⟩
      refine wpF_step (op_b (some 96) (((prt (nof k) l j : Nat) : Int) != ((prt (nof k) l j : Nat) : Int)) false (cmpNeF (by omega)) ?_)
      refine wpF_run 3 [(99, (vI (prt (nof k) l j))), (98, vF), (97, vF)] (wpF_step (op_split (some 100) (decide (((prt (nof k) l j : Nat) : Int) < ((4 : Nat) : Int))) (fun hc100 => ?_) (fun hc100 => ?_)))
      · replace hc100 : prt (nof k) l j < 4 := by have := of_d_t hc100; omega
        have hpl := prt_last hjm hc100
        refine wpF_run 3 [(103, (vI (cnt (nof k) l))), (102, (vI j)), (101, vT)] (wpF_step (op_in (some 104) .i64 (IntKind.i64.wrap (((cnt (nof k) l : Nat) : Int) - ((1 : Nat) : Int))) (cnt (nof k) l - 1) (wrapS (by omega) (by omega) (by omega)) ?_))
        refine wpF_step (op_b (some 105) (((j : Nat) : Int) != ((cnt (nof k) l - 1 : Nat) : Int)) false (cmpNeF (by omega)) ?_)
        refine wpF_run 2 [(107, vF), (106, vF)] (wpF_end (then_code (wpC_false (wpC_skip (inBlock_normal (then_code (wpC_region (wpF_run 1 [(73, (vI v))] (wpF_step (op_in (some 74) .i64 (IntKind.i64.wrap (((v : Nat) : Int) + ((1 : Nat) : Int))) (v + 1) (wrapS (by omega) (by omega) (by omega)) ?_))))))))))
        refine wpF_run 1 [(13, (vI (v + 1)))] (wpF_end (then_normal (endR_mk (v + 1) ?_ ?_)))
        · exact ⟨by omega, (hEi.trans hEw7)⟩
        · first | omega | (dsimp only; omega)
      · replace hc100 : ¬ (prt (nof k) l j < 4) := by have := of_d_f hc100; omega
        refine wpF_run 7 [(107, vF), (106, vF), (105, undef), (104, undef), (103, undef), (102, undef), (101, vF)] (wpF_end (then_code (wpC_false (wpC_skip (inBlock_normal (then_code (wpC_region (wpF_run 1 [(73, (vI v))] (wpF_step (op_in (some 74) .i64 (IntKind.i64.wrap (((v : Nat) : Int) + ((1 : Nat) : Int))) (v + 1) (wrapS (by omega) (by omega) (by omega)) ?_))))))))))
        refine wpF_run 1 [(13, (vI (v + 1)))] (wpF_end (then_normal (endR_mk (v + 1) ?_ ?_)))
        · exact ⟨by omega, (hEi.trans hEw7)⟩
        · first | omega | (dsimp only; omega)
    · replace hc72 : ¬ (v < 40) := by have := of_d_f hc72; omega
      refine wpF_end (then_code (wpC_false (wpC_exit (then_exit (then_exit (inBlock_exit (then_code (wpC_seq (wpC_region ?_)))))))))
      refine wpF_run 3 [(111, (vI (cnt (nof k) l))), (110, (vI l)), (109, (vI (nof k)))] (wpF_step (op_in (some 112) .i64 (IntKind.i64.wrap (((cnt (nof k) l : Nat) : Int) - ((1 : Nat) : Int))) (cnt (nof k) l - 1) (wrapS (by omega) (by omega) (by omega)) ?_))
      refine wpF_step (op_call (some 113) (c_Parts (nof k) l (cnt (nof k) l - 1) _ (by omega) (by omega) (by omega) (by omega)) ?_)
      rintro _ w8 ⟨rfl, hEw8⟩
      have hzw8 := hEw8.size
      refine wpF_run 5 [(12, (vI 0)), (17, (vI (prt (nof k) l (cnt (nof k) l - 1)))), (115, (vI 0)), (114, (vI (prt (nof k) l (cnt (nof k) l - 1)))), (108, (.tuple #[(vI (prt (nof k) l (cnt (nof k) l - 1))), (vI 0)]))] (wpF_end (then_code (wpC_seq (wpC_seq (wpC_region (wpF_run 1 [(116, (vI 0))] (wpF_step (op_b (some 117) (((0 : Nat) : Int) != ((0 : Nat) : Int)) false (cmpNeF (by omega)) ?_))))))))
      refine wpF_run 2 [(119, (vI (cnt (nof k) l))), (118, vF)] (wpF_step (op_in (some 120) .i64 (IntKind.i64.wrap (((cnt (nof k) l : Nat) : Int) - ((1 : Nat) : Int))) (cnt (nof k) l - 1) (wrapS (by omega) (by omega) (by omega)) ?_))
      refine wpF_step (op_in (some 121) .i64 (IntKind.i64.wrap (((4 : Nat) : Int) * ((cnt (nof k) l - 1 : Nat) : Int))) (4 * (cnt (nof k) l - 1)) (wrapS (by omega) (by omega) (by omega)) ?_)
      refine wpF_run 1 [(122, (vI (prt (nof k) l (cnt (nof k) l - 1))))] (wpF_step (op_in (some 123) .i64 (IntKind.i64.wrap (((4 * (cnt (nof k) l - 1) : Nat) : Int) + ((prt (nof k) l (cnt (nof k) l - 1) : Nat) : Int))) (4 * (cnt (nof k) l - 1) + prt (nof k) l (cnt (nof k) l - 1)) (wrapS (by omega) (by omega) (by have := prt_le (nof k) l (cnt (nof k) l - 1); omega)) ?_))
      refine wpF_run 1 [(124, (vI (und (nof k) l)))] (wpF_step (op_b (some 125) (((4 * (cnt (nof k) l - 1) + prt (nof k) l (cnt (nof k) l - 1) : Nat) : Int) != ((und (nof k) l : Nat) : Int)) false (cmpNeF (by have := prt_sum (n := nof k) (l := l) hn1; omega)) ?_))
      refine wpF_run 1 [(126, vF)] (wpF_end (then_code (wpC_false (wpC_skip (then_code (wpC_seq (wpC_region (wpF_run 2 [(128, (vI (cnt (nof k) l))), (127, (vI (num (nof k) l)))] (wpF_step (op_in (some 129) .i64 (IntKind.i64.wrap (((num (nof k) l : Nat) : Int) + ((cnt (nof k) l : Nat) : Int))) (num (nof k) (l + 1)) (wrapS (by rw [num]; omega) (by omega) (by have := num_small (l := l + 1) hn2 (by omega); omega)) ?_))))))))))
      refine wpF_run 1 [(8, (vI (num (nof k) (l + 1))))] (wpF_end (then_code (wpC_region (wpF_run 2 [(9, (vI (cnt (nof k) l))), (130, (vI (cnt (nof k) l)))] (wpF_end (inBlock_normal (then_code (wpC_region (wpF_run 1 [(43, (vI l))] ?_)))))))))
      refine wpF_step (op_in (some 44) .i64 (IntKind.i64.wrap (((l : Nat) : Int) + ((1 : Nat) : Int))) (l + 1) (wrapS (by omega) (by omega) (by omega)) ?_)
      refine wpF_run 1 [(10, (vI (l + 1)))] (wpF_end (then_normal ?_))
      have hX1 : Ext w3 w8 := (((hEl.trans hEw5).trans hEi).trans hEw8)
      refine endR_mk (l + 1) ?_ ?_
      · exact ⟨by omega, hX1⟩
      · first | omega | (dsimp only; omega)
  · replace hc42 : ¬ (l ≤ hgt (nof k)) := by have := of_d_f hc42; omega
    refine wpF_end (then_code (wpC_false (wpC_exit (then_exit (then_exit (inBlock_exit (then_code (wpC_seq (wpC_region ?_)))))))))
    refine wpF_run 1 [(132, (vI (nof k)))] (wpF_step (op_call (some 133) (c_Total (nof k) _ (by omega) (by omega)) ?_))
    rintro _ w9 ⟨rfl, hEw9⟩
    have hzw9 := hEw9.size
    refine wpF_run 5 [(7, (vI 0)), (18, (vI (tot (nof k)))), (135, (vI 0)), (134, (vI (tot (nof k)))), (131, (.tuple #[(vI (tot (nof k))), (vI 0)]))] (wpF_end (then_code (wpC_seq (wpC_region (wpF_run 1 [(136, (vI 0))] (wpF_step (op_b (some 137) (((0 : Nat) : Int) == ((0 : Nat) : Int)) true (cmpEqT (by omega)) ?_)))))))
    refine wpF_run 3 [(140, (vI (num (nof k) l))), (139, (vI (tot (nof k)))), (138, vT)] (wpF_step (op_b (some 141) (((tot (nof k) : Nat) : Int) == ((num (nof k) l : Nat) : Int)) true (cmpEqT (by rw [show l = hgt (nof k) + 1 by omega]; rfl)) ?_))
    refine wpF_run 2 [(143, vT), (142, vT)] (wpF_step (op_call (some 144) (c_lives12 _) ?_))
    rintro _ w10 ⟨rfl, hEw10⟩
    have hzw10 := hEw10.size
    refine wpF_run 2 [(4, vT), (145, vT)] (wpF_end (then_code (wpC_ret (body_rets vT ?_))))
    have hX2 : Ext w w10 := (((((hEw1.trans hEw2).trans hEw3).trans hEl).trans hEw9).trans hEw10)
    exact ⟨rfl, hX2⟩

end Go.Proofs.Ytpcbhalagllhnaa
