/- CsS4: what each function does, by its own code. No condition beyond those of each statement. -/
import Derived.Test.YtpcbhalagllhnaaCsS3
import Derived.Test.YtpcbhalagllhnaaCsPth
namespace Go.Proofs.Ytpcbhalagllhnaa
open Go Go.RowKit Go.Cs
set_option maxRecDepth 100000
set_option linter.all false
set_option linter.unusedVariables false

theorem c_Reverse {b m e : Nat} {l : List (Nat × Nat)} (w : World) (hB : Blk w b (l.flatMap plaV) e) (hm : m = l.length) (hm2 : m ≤ 1099511627776) :
    Calls Try.prog 41 #[(.slice (pA b 0) m m)] w (Ret fun r w' => r = .tuple #[] ∧ Blk w' b (l.reverse.flatMap plaV) e ∧ Chg (· = b) w w') := by
  refine calls_of (n := 28) (σ := [(0, (.slice (pA b 0) m m))]) Try.func41 rfl ?_
  refine wpC_seq (wpC_region (wpF_run 2 [(5, (vI m)), (4, (.slice (pA b 0) m m))] (wpF_step (op_iz (some 6) .i64 (IntKind.i64.wrap (((m : Nat) : Int) - ((1 : Nat) : Int))) ((m : Int) - 1) (wrapS rfl (by omega) (by omega)) ?_))))
  refine wpF_run 2 [(3, (.int .i64 ((m : Int) - 1))), (2, (vI 0))] (wpF_end (then_code (wpC_block (wpC_loop (X := Nat) (fun k => [(2, (vI k)), (3, (.int .i64 ((m : Int) - 1 - (k : Int))))]) [7, 8, 9, 10, 11, 12, 13, 14, 15, 16, 17, 18, 19, 20, 21, 22, 23, 24, 25, 26, 27] (fun k w1 => 2 * k ≤ m + 1 ∧ Blk w1 b ((rv l k).flatMap plaV) e ∧ Chg (· = b) w w1) (fun k => m - k) 0 (by rw [show ((m : Int) - 1 - ((0 : Nat) : Int)) = (m : Int) - 1 from by omega]; kernel_rfl) ⟨by omega, (by rw [rv_zero]; exact hB), Chg.refl _ _⟩ ?_))))
  rintro k dw1 w1 ⟨hk, hBl, hCl⟩
  have hzl := hCl.size; have hll := hBl.lt; have hml : (rv l k).length = m := by rw [rv_length]; omega
  refine wpC_seq (wpC_seq (wpC_region (wpF_run 2 [(8, (.int .i64 ((m : Int) - 1 - (k : Int)))), (7, (vI k))] (wpF_step (op_split (some 9) (decide (((k : Nat) : Int) < (m : Int) - 1 - (k : Int))) (fun hc => ?_) (fun hc => ?_))))))
  · replace hc : 2 * k + 1 < m := by have := of_d_t hc; omega
    have hjn : (m : Int) - 1 - (k : Int) = ((m - 1 - k : Nat) : Int) := by omega
    have hSl : Ms plaV 2 b (b + 1) w1 (pA b 0) m m (rv l k) := Ms.of_pre (r := []) (by rw [List.append_nil]; exact hBl) plaV_len hml.symm (Nat.le_refl _) (by simp only [maxLen]; omega) (Nat.le_refl _) (Nat.lt_succ_self _)
    refine wpF_end (then_code (wpC_true (wpC_skip (then_code (wpC_seq (wpC_block (wpC_drawM (Chg (fun k => k = b) w1.drew) 16 [(15, 1, 0), (16, 4, 0), (17, 1, 0), (18, 8, 0), (19, 1, 0), (20, 8, 0), (21, 786432, 48), (22, 1048576, 64), (23, 1, 0), (24, 4, 0), (25, 12582912, 768), (26, 16777216, 1024), (27, 49152, 2291), (0, 69206016, 6387), (28, 196608, 16383), (0, 167772160, 32767)] (fun hT29 => ?_))))))))
    have hEw2 : Ext w1 w1.drew := Ext.drew w1
    generalize w1.drew = w2 at hEw2 ⊢
    have hzw2 := hEw2.size
    refine anyM_run (hw := show Chg (fun k => k = b) w2 w2 from (Chg.refl (fun k => k = b) w2)) hT29 [(0, 14, (.slice (pA b 0) m m)), (1, 15, (vI k)), (2, 16, (.slice (pA b 0) m m)), (3, 17, (.int .i64 ((m : Int) - 1 - (k : Int)))), (4, 18, (.slice (pA b 0) m m)), (5, 19, (.int .i64 ((m : Int) - 1 - (k : Int))))] 6 63 (anyM_take (hw := show Chg (fun k => k = b) w2 w2 from (Chg.refl (fun k => k = b) w2)) hT29 6 127 (some 20) (vP b (0 + (m - 1 - k) * 2)) (yld_val (Instr.indexAt 54 (.slice (pA b 0) m m) (.int .i64 ((m : Int) - 1 - (k : Int)))) (fun w' hC => by rw [hjn]; exact rn_ixs (E := 45) (sz := 2) (by omega))) (anyM_run (hw := show Chg (fun k => k = b) w2 w2 from (Chg.refl (fun k => k = b) w2)) hT29 [(8, 22, (.slice (pA b 0) m m)), (9, 23, (vI k))] 2 895 (anyM_take (hw := show Chg (fun k => k = b) w2 w2 from (Chg.refl (fun k => k = b) w2)) hT29 10 1919 (some 24) (vP b (0 + k * 2)) (yld_val (Instr.indexAt 54 (.slice (pA b 0) m m) (vI k)) (fun w' hC => rn_ixs (E := 45) (sz := 2) (by omega))) (anyM_two 7 11 2047 3967 ?_ ?_))))
    · refine op_v (some 21) (Instr.loadAt 45 (vP b (0 + (m - 1 - k) * 2))) (vA [(vI (((rv l k).getD (m - 1 - k) (0, 0)).1)), (vI (((rv l k).getD (m - 1 - k) (0, 0)).2))]) (rn_lda (vs := [(vI (((rv l k).getD (m - 1 - k) (0, 0)).1)), (vI (((rv l k).getD (m - 1 - k) (0, 0)).2))]) ((hSl.ext hEw2).at (0, 0) (by omega))) (⟨.inr (Chg.refl (fun k => k = b) w2), ?_⟩)
      refine anyM_one 11 4095 (op_v (some 25) (Instr.loadAt 45 (vP b (0 + k * 2))) (vA [(vI (((rv l k).getD k (0, 0)).1)), (vI (((rv l k).getD k (0, 0)).2))]) (rn_lda (vs := [(vI (((rv l k).getD k (0, 0)).1)), (vI (((rv l k).getD k (0, 0)).2))]) ((hSl.ext hEw2).at (0, 0) (by omega))) ?_)
      refine ⟨.inr (Chg.refl (fun k => k = b) w2), ?_⟩
      refine anyM_take (hw := show Chg (fun k => k = b) w2 w2 from (Chg.refl (fun k => k = b) w2)) hT29 12 8191 (some 26) (vP b (0 + k * 2)) (yld_val (Instr.indexAt 54 (.slice (pA b 0) m m) (vI k)) (fun w' hC => rn_ixs (E := 45) (sz := 2) (by omega))) (anyM_one 13 16383 (op_store 45 b (0 + k * 2) e (vA [(vI (((rv l k).getD (m - 1 - k) (0, 0)).1)), (vI (((rv l k).getD (m - 1 - k) (0, 0)).2))]) ((rv l k).flatMap plaV) ([(vI (((rv l k).getD (m - 1 - k) (0, 0)).1)), (vI (((rv l k).getD (m - 1 - k) (0, 0)).2))]) (hBl.ext hEw2) (by kernel_rfl) (by rw [flatMap_len plaV_len]; (try simp only [List.length_cons, List.length_nil, List.length_set]); have := hml; omega) (by simp [Value.oneCell']) ?_))
      intro w3 hBw3 hCw3
      have hzw3 := hCw3.size
      rw [show setFrom ((rv l k).flatMap plaV) (0 + k * 2) ([(vI (((rv l k).getD (m - 1 - k) (0, 0)).1)), (vI (((rv l k).getD (m - 1 - k) (0, 0)).2))]) = ((rv l k).set k ((rv l k).getD (m - 1 - k) (0, 0))).flatMap plaV from flatMap_set plaV_len _ _ _ (by (try simp only [List.length_set]); omega)] at hBw3
      have hmw3 : Ms plaV 2 b (b + 1) w3 (pA b 0) m m ((rv l k).set k ((rv l k).getD (m - 1 - k) (0, 0))) := Ms.of_pre (r := []) (by rw [List.append_nil]; exact hBw3) plaV_len (by (try simp only [List.length_set]); omega) (by omega) (by simp only [maxLen]; omega) (by omega) (by omega)
      refine ⟨.inr (Chg.then (Chg.refl (fun k => k = b) w2) hCw3 (fun k hk hs => by have h : k = _ := hs; first | exact hs | (exfalso; omega))), ?_⟩
      refine anyM_take (hw := show Chg (fun k => k = b) w2 w3 from (Chg.then (Chg.refl (fun k => k = b) w2) hCw3 (fun k hk hs => by have h : k = _ := hs; first | exact hs | (exfalso; omega)))) hT29 14 32767 (some 27) (vP b (0 + (m - 1 - k) * 2)) (yld_val (Instr.indexAt 54 (.slice (pA b 0) m m) (.int .i64 ((m : Int) - 1 - (k : Int)))) (fun w' hC => by rw [hjn]; exact rn_ixs (E := 45) (sz := 2) (by omega))) (anyM_one 15 65535 (op_store 45 b (0 + (m - 1 - k) * 2) e (vA [(vI (((rv l k).getD k (0, 0)).1)), (vI (((rv l k).getD k (0, 0)).2))]) (((rv l k).set k ((rv l k).getD (m - 1 - k) (0, 0))).flatMap plaV) ([(vI (((rv l k).getD k (0, 0)).1)), (vI (((rv l k).getD k (0, 0)).2))]) hBw3 (by kernel_rfl) (by rw [flatMap_len plaV_len]; (try simp only [List.length_cons, List.length_nil, List.length_set]); have := hml; omega) (by simp [Value.oneCell']) ?_))
      intro w4 hBw4 hCw4
      have hzw4 := hCw4.size
      rw [show setFrom (((rv l k).set k ((rv l k).getD (m - 1 - k) (0, 0))).flatMap plaV) (0 + (m - 1 - k) * 2) ([(vI (((rv l k).getD k (0, 0)).1)), (vI (((rv l k).getD k (0, 0)).2))]) = (((rv l k).set k ((rv l k).getD (m - 1 - k) (0, 0))).set (m - 1 - k) ((rv l k).getD k (0, 0))).flatMap plaV from flatMap_set plaV_len _ _ _ (by (try simp only [List.length_set]); omega)] at hBw4
      have hmw4 : Ms plaV 2 b (b + 1) w4 (pA b 0) m m (((rv l k).set k ((rv l k).getD (m - 1 - k) (0, 0))).set (m - 1 - k) ((rv l k).getD k (0, 0))) := Ms.of_pre (r := []) (by rw [List.append_nil]; exact hBw4) plaV_len (by (try simp only [List.length_set]); omega) (by omega) (by simp only [maxLen]; omega) (by omega) (by omega)
      refine ⟨.inl (by kernel_rfl), ?_⟩
      refine anyM_done (inBlock_normal (then_code (wpC_region (wpF_run 1 [(10, (vI k))] (wpF_step (op_in (some 11) .i64 (IntKind.i64.wrap (((k : Nat) : Int) + ((1 : Nat) : Int))) (k + 1) (wrapS (by omega) (by omega) (by omega)) ?_))))))
      refine wpF_run 1 [(12, (.int .i64 ((m : Int) - 1 - (k : Int))))] (wpF_step (op_iz (some 13) .i64 (IntKind.i64.wrap ((m : Int) - 1 - (k : Int) - ((1 : Nat) : Int))) ((m : Int) - 1 - ((k + 1 : Nat) : Int)) (wrapS (by omega) (by omega) (by omega)) ?_))
      refine wpF_run 2 [(3, (.int .i64 ((m : Int) - 1 - ((k + 1 : Nat) : Int)))), (2, (vI (k + 1)))] (wpF_end (then_normal (endR_mk (k + 1) ?_ ?_)))
      · refine ⟨by omega, ?_, (((hCl.trans hEw2.chg).trans hCw3).trans hCw4)⟩
        have hBe := hBw4
        rw [show m - 1 - k = l.length - 1 - k by omega, rv_step l (by omega)] at hBe
        exact hBe
      · first | omega | (dsimp only; omega)
    · refine op_v (some 25) (Instr.loadAt 45 (vP b (0 + k * 2))) (vA [(vI (((rv l k).getD k (0, 0)).1)), (vI (((rv l k).getD k (0, 0)).2))]) (rn_lda (vs := [(vI (((rv l k).getD k (0, 0)).1)), (vI (((rv l k).getD k (0, 0)).2))]) ((hSl.ext hEw2).at (0, 0) (by omega))) (⟨.inr (Chg.refl (fun k => k = b) w2), ?_⟩)
      refine anyM_one 7 4095 (op_v (some 21) (Instr.loadAt 45 (vP b (0 + (m - 1 - k) * 2))) (vA [(vI (((rv l k).getD (m - 1 - k) (0, 0)).1)), (vI (((rv l k).getD (m - 1 - k) (0, 0)).2))]) (rn_lda (vs := [(vI (((rv l k).getD (m - 1 - k) (0, 0)).1)), (vI (((rv l k).getD (m - 1 - k) (0, 0)).2))]) ((hSl.ext hEw2).at (0, 0) (by omega))) ?_)
      refine ⟨.inr (Chg.refl (fun k => k = b) w2), ?_⟩
      refine anyM_take (hw := show Chg (fun k => k = b) w2 w2 from (Chg.refl (fun k => k = b) w2)) hT29 12 8191 (some 26) (vP b (0 + k * 2)) (yld_val (Instr.indexAt 54 (.slice (pA b 0) m m) (vI k)) (fun w' hC => rn_ixs (E := 45) (sz := 2) (by omega))) (anyM_one 13 16383 (op_store 45 b (0 + k * 2) e (vA [(vI (((rv l k).getD (m - 1 - k) (0, 0)).1)), (vI (((rv l k).getD (m - 1 - k) (0, 0)).2))]) ((rv l k).flatMap plaV) ([(vI (((rv l k).getD (m - 1 - k) (0, 0)).1)), (vI (((rv l k).getD (m - 1 - k) (0, 0)).2))]) (hBl.ext hEw2) (by kernel_rfl) (by rw [flatMap_len plaV_len]; (try simp only [List.length_cons, List.length_nil, List.length_set]); have := hml; omega) (by simp [Value.oneCell']) ?_))
      intro w5 hBw5 hCw5
      have hzw5 := hCw5.size
      rw [show setFrom ((rv l k).flatMap plaV) (0 + k * 2) ([(vI (((rv l k).getD (m - 1 - k) (0, 0)).1)), (vI (((rv l k).getD (m - 1 - k) (0, 0)).2))]) = ((rv l k).set k ((rv l k).getD (m - 1 - k) (0, 0))).flatMap plaV from flatMap_set plaV_len _ _ _ (by (try simp only [List.length_set]); omega)] at hBw5
      have hmw5 : Ms plaV 2 b (b + 1) w5 (pA b 0) m m ((rv l k).set k ((rv l k).getD (m - 1 - k) (0, 0))) := Ms.of_pre (r := []) (by rw [List.append_nil]; exact hBw5) plaV_len (by (try simp only [List.length_set]); omega) (by omega) (by simp only [maxLen]; omega) (by omega) (by omega)
      refine ⟨.inr (Chg.then (Chg.refl (fun k => k = b) w2) hCw5 (fun k hk hs => by have h : k = _ := hs; first | exact hs | (exfalso; omega))), ?_⟩
      refine anyM_take (hw := show Chg (fun k => k = b) w2 w5 from (Chg.then (Chg.refl (fun k => k = b) w2) hCw5 (fun k hk hs => by have h : k = _ := hs; first | exact hs | (exfalso; omega)))) hT29 14 32767 (some 27) (vP b (0 + (m - 1 - k) * 2)) (yld_val (Instr.indexAt 54 (.slice (pA b 0) m m) (.int .i64 ((m : Int) - 1 - (k : Int)))) (fun w' hC => by rw [hjn]; exact rn_ixs (E := 45) (sz := 2) (by omega))) (anyM_one 15 65535 (op_store 45 b (0 + (m - 1 - k) * 2) e (vA [(vI (((rv l k).getD k (0, 0)).1)), (vI (((rv l k).getD k (0, 0)).2))]) (((rv l k).set k ((rv l k).getD (m - 1 - k) (0, 0))).flatMap plaV) ([(vI (((rv l k).getD k (0, 0)).1)), (vI (((rv l k).getD k (0, 0)).2))]) hBw5 (by kernel_rfl) (by rw [flatMap_len plaV_len]; (try simp only [List.length_cons, List.length_nil, List.length_set]); have := hml; omega) (by simp [Value.oneCell']) ?_))
      intro w6 hBw6 hCw6
      have hzw6 := hCw6.size
      rw [show setFrom (((rv l k).set k ((rv l k).getD (m - 1 - k) (0, 0))).flatMap plaV) (0 + (m - 1 - k) * 2) ([(vI (((rv l k).getD k (0, 0)).1)), (vI (((rv l k).getD k (0, 0)).2))]) = (((rv l k).set k ((rv l k).getD (m - 1 - k) (0, 0))).set (m - 1 - k) ((rv l k).getD k (0, 0))).flatMap plaV from flatMap_set plaV_len _ _ _ (by (try simp only [List.length_set]); omega)] at hBw6
      have hmw6 : Ms plaV 2 b (b + 1) w6 (pA b 0) m m (((rv l k).set k ((rv l k).getD (m - 1 - k) (0, 0))).set (m - 1 - k) ((rv l k).getD k (0, 0))) := Ms.of_pre (r := []) (by rw [List.append_nil]; exact hBw6) plaV_len (by (try simp only [List.length_set]); omega) (by omega) (by simp only [maxLen]; omega) (by omega) (by omega)
      refine ⟨.inl (by kernel_rfl), ?_⟩
      refine anyM_done (inBlock_normal (then_code (wpC_region (wpF_run 1 [(10, (vI k))] (wpF_step (op_in (some 11) .i64 (IntKind.i64.wrap (((k : Nat) : Int) + ((1 : Nat) : Int))) (k + 1) (wrapS (by omega) (by omega) (by omega)) ?_))))))
      refine wpF_run 1 [(12, (.int .i64 ((m : Int) - 1 - (k : Int))))] (wpF_step (op_iz (some 13) .i64 (IntKind.i64.wrap ((m : Int) - 1 - (k : Int) - ((1 : Nat) : Int))) ((m : Int) - 1 - ((k + 1 : Nat) : Int)) (wrapS (by omega) (by omega) (by omega)) ?_))
      refine wpF_run 2 [(3, (.int .i64 ((m : Int) - 1 - ((k + 1 : Nat) : Int)))), (2, (vI (k + 1)))] (wpF_end (then_normal (endR_mk (k + 1) ?_ ?_)))
      · refine ⟨by omega, ?_, (((hCl.trans hEw2.chg).trans hCw5).trans hCw6)⟩
        have hBe := hBw6
        rw [show m - 1 - k = l.length - 1 - k by omega, rv_step l (by omega)] at hBe
        exact hBe
      · first | omega | (dsimp only; omega)
  · replace hc : m ≤ 2 * k + 1 := by have := of_d_f hc; omega
    refine wpF_end (then_code (wpC_false (wpC_exit (then_exit (then_exit (inBlock_exit (body_end ?_)))))))
    rw [rv_all l (by omega)] at hBl
    exact ⟨rfl, hBl, hCl⟩

end Go.Proofs.Ytpcbhalagllhnaa
