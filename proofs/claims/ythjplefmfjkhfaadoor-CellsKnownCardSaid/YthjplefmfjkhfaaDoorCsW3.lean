/- CsW3: what each function does, by its own code. No condition beyond those of each statement. -/
import Derived.Test.YthjplefmfjkhfaaDoorCsW2
namespace Go.Proofs.YthjplefmfjkhfaaDoor
open Go Go.RowKit Go.Cs
set_option maxRecDepth 100000
set_option linter.all false
set_option linter.unusedVariables false

theorem c_Join {lo_ls hi_ls : Nat} {a_ls : Option Addr} {n_ls c_ls : Nat} {v_ls : List Value} {ls : List (List UInt8)}  (w : World) (h_ls : Ps lo_ls hi_ls w a_ls n_ls c_ls v_ls ls) (hp0 : sumLen ls ≤ 1099511627776) :
    Calls Tryd.prog 65 #[(.slice a_ls n_ls c_ls)] w (Ret fun r w' => ∃ a0, r = (.slice (pA a0 0) (sumLen ls) (sumLen ls)) ∧ w.heap.size ≤ a0 ∧ Blk w' a0 (u8s ls.flatten) 5 ∧ sumLen ls = (ls.flatten).length ∧ sumLen ls ≤ 1099511627776 ∧ Ext w w') := by
  refine calls_of (n := 38) (σ := [(0, (.slice a_ls n_ls c_ls))]) Tryd.func65 rfl ?_
  replace h_ls := h_ls.now; have hle_ls := h_ls.le
  refine wpC_seq (wpC_region (wpF_run 1 [(2, (.slice none 0 0))] (wpF_end (then_code (wpC_seq (wpC_region (wpF_run 1 [(3, (vI 0))] (wpF_end (then_code ?_)))))))))
  refine wpC_seq (wpC_seq (wpC_region (wpF_run 3 [(12, (vI 0)), (11, (vI n_ls)), (10, (.slice a_ls n_ls c_ls))] (wpF_end (then_code (wpC_block (wpC_loop (X := Nat) (fun i => [(3, (vI (sumLen (ls.take i)))), (12, (vI i))]) [5, 13, 14, 15, 16, 17, 18, 19, 20] (fun i w1 => w = w1 ∧ i ≤ n_ls) (fun i => n_ls - i) 0 (by rw [List.take_zero]; kernel_rfl) ⟨rfl, by omega⟩ ?_)))))))
  rintro i dw1 w1 ⟨rfl, hi⟩
  have hlen := h_ls.len_eq
  have hsl := sumLen_le ls i
  have hsl1 := sumLen_le ls (i + 1)
  refine wpC_seq (wpC_region (wpF_step (op_split (some 13) (decide (((i : Nat) : Int) < ((n_ls : Nat) : Int))) (fun hc13 => ?_) (fun hc13 => ?_))))
  · replace hc13 : i < n_ls := by have := of_d_t hc13; omega
    have hst := sumLen_take (ls := ls) (i := i) (by omega)
    refine wpF_end (then_code (wpC_seq (wpC_true (wpC_skip (then_code (wpC_seq (wpC_block (wpC_seq (wpC_region ?_)))))))))
    obtain ⟨b1, o1, rfl⟩ := h_ls.addr (by omega)
    refine wpF_step (op_v (some 14) (Instr.indexAt 110 (.slice (pA b1 o1) n_ls c_ls) (vI i)) (vP b1 (o1 + i * 1)) (rn_ixs (E := 91) (sz := 1) (by omega)) ?_)
    obtain ⟨a1, n1, cp1, hP1, hS1⟩ := (h_ls).cell (i := i) (by omega)
    have hlehS1 := hS1.le; have hlnhS1 := hS1.len_eq
    refine wpF_step (op_v (some 15) (Instr.loadAt 91 (vP b1 (o1 + i * 1))) (.slice a1 n1 cp1) (rn_ld hP1) ?_)
    refine wpF_run 1 [(5, (.slice a1 n1 cp1))] (wpF_end (then_code (wpC_region (wpF_run 3 [(18, (vI n1)), (17, (.slice a1 n1 cp1)), (16, (vI (sumLen (ls.take i))))] (wpF_step (op_in (some 19) .i64 (IntKind.i64.wrap (((sumLen (ls.take i) : Nat) : Int) + ((n1 : Nat) : Int))) (sumLen (ls.take (i + 1))) (wrapS (by omega) (by omega) (by omega)) ?_))))))
    refine wpF_run 1 [(3, (vI (sumLen (ls.take (i + 1)))))] (wpF_end (inBlock_normal (then_code (wpC_region (wpF_step (op_in (some 20) .i64 (IntKind.i64.wrap (((i : Nat) : Int) + ((1 : Nat) : Int))) (i + 1) (wrapS (by omega) (by omega) (by omega)) ?_))))))
    refine wpF_run 1 [(12, (vI (i + 1)))] (wpF_end (then_normal (endR_mk (i + 1) ?_ ?_)))
    · exact ⟨rfl, by omega⟩
    · first | omega | (dsimp only; omega)
  · replace hc13 : ¬ (i < n_ls) := by have := of_d_f hc13; omega
    have hfin1 : ls.take i = ls := List.take_of_length_le (by omega)
    rw [hfin1]
    refine wpF_end (then_code (wpC_seq (wpC_false (wpC_exit (then_exit (then_exit (inBlock_exit (then_code (wpC_seq ?_)))))))))
    refine wpC_region (wpF_run 1 [(21, (vI (sumLen (ls))))] (wpF_step (op_make (some 22) 91 5 1 1 (sumLen (ls)) (sumLen (ls)) .i64 .i64 (vB 0) (by omega) (by omega) (by omega) ?_)))
    rw [made_one _ rfl]
    intro w2 hBw2 hEw2
    have hzw2 := hEw2.size; have hlw2 := hBw2.lt
    have hSw2 : Bs w.heap.size (w.heap.size + 1) w2 (pA w.heap.size 0) (sumLen (ls)) (sumLen (ls)) (List.replicate (sumLen (ls)) 0) := Bs.of_blk hBw2 (u8s_zero _) (by simp) (Nat.le_refl _) (by simp only [maxLen]; omega) (Nat.le_refl _) (Nat.lt_succ_self _)
    refine wpF_run 1 [(6, (.slice (pA w.heap.size 0) (sumLen (ls)) (sumLen (ls))))] (wpF_end (then_code (wpC_seq (wpC_region (wpF_run 1 [(7, (vI 0))] (wpF_end (then_code (wpC_seq (wpC_seq ?_)))))))))
    refine wpC_region (wpF_run 3 [(25, (vI 0)), (24, (vI n_ls)), (23, (.slice a_ls n_ls c_ls))] (wpF_end (then_code (wpC_block (wpC_loop (X := Nat) (fun jj => [(7, (vI (sumLen (ls.take jj)))), (25, (vI jj))]) [9, 26, 27, 28, 29, 30, 31, 32, 33, 34, 35, 36] (fun jj w3 => jj ≤ n_ls ∧ Blk w3 w.heap.size (u8s ((ls.take jj).flatten ++ List.replicate (sumLen ls - sumLen (ls.take jj)) 0)) 5 ∧ Ext w w3) (fun jj => n_ls - jj) 0 (by rw [List.take_zero]; kernel_rfl) ⟨by omega, (by rw [List.take_zero, show sumLen ls - sumLen [] = sumLen ls from rfl, List.flatten_nil, List.nil_append, ← u8s_zero]; exact hBw2), hEw2⟩ ?_)))))
    rintro jj dw3 w3 ⟨hi, hBl, hEl⟩
    have hzl := hEl.size; have hll := hBl.lt
    have hlen := h_ls.len_eq
    have hsl := sumLen_le ls jj
    have hsl1 := sumLen_le ls (jj + 1)
    refine wpC_seq (wpC_region (wpF_step (op_split (some 26) (decide (((jj : Nat) : Int) < ((n_ls : Nat) : Int))) (fun hc26 => ?_) (fun hc26 => ?_))))
    · replace hc26 : jj < n_ls := by have := of_d_t hc26; omega
      have hst := sumLen_take (ls := ls) (i := jj) (by omega)
      refine wpF_end (then_code (wpC_seq (wpC_true (wpC_skip (then_code (wpC_seq (wpC_block (wpC_seq (wpC_region ?_)))))))))
      obtain ⟨b2, o2, rfl⟩ := h_ls.addr (by omega)
      refine wpF_step (op_v (some 27) (Instr.indexAt 110 (.slice (pA b2 o2) n_ls c_ls) (vI jj)) (vP b2 (o2 + jj * 1)) (rn_ixs (E := 91) (sz := 1) (by omega)) ?_)
      obtain ⟨a2, n2, cp2, hP2, hS2⟩ := ((h_ls.ext hEl)).cell (i := jj) (by omega)
      have hlehS2 := hS2.le; have hlnhS2 := hS2.len_eq
      refine wpF_step (op_v (some 28) (Instr.loadAt 91 (vP b2 (o2 + jj * 1))) (.slice a2 n2 cp2) (rn_ld hP2) ?_)
      refine wpF_run 1 [(9, (.slice a2 n2 cp2))] (wpF_end (then_code (wpC_region (wpF_run 3 [(31, (vI (sumLen (ls.take jj)))), (30, (.slice (pA w.heap.size 0) (sumLen (ls)) (sumLen (ls)))), (29, (vI (sumLen (ls.take jj))))] ?_))))
      obtain ⟨ad, hRd, hAd⟩ := hBl.slice (len := (sumLen (ls))) (cap := (sumLen (ls))) Tryd.prog 91 5 (sumLen (ls.take jj)) (sumLen (ls)) (sumLen (ls)) (some (vI (sumLen (ls.take jj)))) none none
      refine wpF_step (op_v (some 32) (Instr.sliceAt 91 (.slice (pA w.heap.size 0) (sumLen (ls)) (sumLen (ls))) (some (vI (sumLen (ls.take jj)))) none none) (.slice ad (sumLen ls - sumLen (ls.take jj)) (sumLen ls - sumLen (ls.take jj))) (hRd _) ?_)
      refine wpF_run 1 [(33, (.slice a2 n2 cp2))] (wpF_step (op_copy (a := ad) (dl := sumLen ls - sumLen (ls.take jj)) (dc := sumLen ls - sumLen (ls.take jj)) (some 34) 91 91 3 5 w.heap.size (sumLen (ls.take jj)) hBl (fun h => hAd (by omega)) (by rw [u8s_length, List.length_append, sumLen_flatten, List.length_replicate]; omega) hS2.es (fun _ => rfl) ?_))
      intro w4 hBw4 hCw4
      have hzw4 := hCw4.size
      rw [show setFrom (u8s ((ls.take jj).flatten ++ List.replicate (sumLen ls - sumLen (ls.take jj)) 0)) (sumLen (ls.take jj)) (((ls.getD jj []).take (min n2 (sumLen ls - sumLen (ls.take jj)))).map u8v) = u8s ((ls.take (jj + 1)).flatten ++ List.replicate (sumLen ls - sumLen (ls.take (jj + 1))) 0) from by rw [flatten_take (by omega), sumLen_take (by omega), show min n2 (sumLen ls - sumLen (ls.take jj)) = (ls.getD jj []).length from by omega]; exact join_step _ _ _ _ (sumLen_flatten _).symm (by omega)] at hBw4
      refine wpF_step (op_in (some 35) .i64 (IntKind.i64.wrap (((sumLen (ls.take jj) : Nat) : Int) + ((min n2 (sumLen ls - sumLen (ls.take jj)) : Nat) : Int))) (sumLen (ls.take (jj + 1))) (wrapS (by omega) (by omega) (by omega)) ?_)
      refine wpF_run 1 [(7, (vI (sumLen (ls.take (jj + 1)))))] (wpF_end (inBlock_normal (then_code (wpC_region (wpF_step (op_in (some 36) .i64 (IntKind.i64.wrap (((jj : Nat) : Int) + ((1 : Nat) : Int))) (jj + 1) (wrapS (by omega) (by omega) (by omega)) ?_))))))
      refine wpF_run 1 [(25, (vI (jj + 1)))] (wpF_end (then_normal (endR_mk (jj + 1) ?_ ?_)))
      · exact ⟨by omega, hBw4, (Ext.own hEl hCw4 (by omega))⟩
      · first | omega | (dsimp only; omega)
    · replace hc26 : ¬ (jj < n_ls) := by have := of_d_f hc26; omega
      refine wpF_end (then_code (wpC_seq (wpC_false (wpC_exit (then_exit (then_exit (inBlock_exit (then_code (wpC_seq ?_)))))))))
      refine wpC_region (wpF_run 2 [(2, (.slice (pA w.heap.size 0) (sumLen (ls)) (sumLen (ls)))), (37, (.slice (pA w.heap.size 0) (sumLen (ls)) (sumLen (ls))))] (wpF_end (then_code (wpC_ret (body_rets (.slice (pA w.heap.size 0) (sumLen (ls)) (sumLen (ls))) ?_)))))
      have hfin : ls.take jj = ls := List.take_of_length_le (by omega)
      rw [hfin] at hBl
      rw [Nat.sub_self, List.replicate_zero, List.append_nil] at hBl
      exact ⟨_, rfl, Nat.le_refl _, hBl, (sumLen_flatten ls).symm, hp0, hEl⟩

end Go.Proofs.YthjplefmfjkhfaaDoor
