/- CsL1c: what each function does, by its own code. No condition beyond those of each statement. -/
import Derived.Test.YtigeaknjhnichaaCsL1
namespace Go.Proofs.Ytigeaknjhnichaa
open Go Go.RowKit Go.Cs
set_option maxRecDepth 100000
set_option linter.all false
set_option linter.unusedVariables false

theorem c_WordsKnown   (w : World)  :
    Calls Try.prog 8 #[] w (Ret fun r w' => r = (.bool true) ∧ Ext w w') := by
  refine calls_of (n := 58) (σ := []) Try.func8 rfl (by kernel_rfl) ?_
  refine wpC_seq ?_
  refine wpC_region ?_
  refine wpF_run 1 [(0, (.bool false))] (by kernel_rfl) ?_
  refine wpF_end (by kernel_rfl) ?_
  refine then_code ?_
  refine wpC_seq ?_
  refine wpC_region ?_
  refine wpF_run 1 [(1, (.int .u64 ((1 : Nat) : Int)))] (by kernel_rfl) ?_
  refine wpF_end (by kernel_rfl) ?_
  refine then_code ?_
  refine wpC_seq ?_
  refine wpC_seq ?_
  refine wpC_region ?_
  refine wpF_run 1 [(2, (.int .i64 ((0 : Nat) : Int)))] (by kernel_rfl) ?_
  refine wpF_end (by kernel_rfl) ?_
  refine then_code ?_
  refine wpC_block ?_
  refine wpC_loop (X := Nat × Nat) (fun ⟨t, u⟩ => [(1, (.int .u64 ((u : Nat) : Int))), (2, (.int .i64 ((t : Nat) : Int)))]) [0, 5, 6, 7, 8, 9, 10, 11, 12, 13, 14, 15, 16, 17, 18, 19, 20, 21, 22] (fun ⟨t, u⟩ w1 => t ≤ 64 ∧ u < 2 ^ 64 ∧ Ext w w1) (fun ⟨t, u⟩ => 64 - t) (0, 1) (by kernel_rfl) ⟨by omega, by decide, (Ext.refl _)⟩ ?_
  rintro ⟨t, u⟩ dw1 w1 ⟨ht, hu, hEl⟩
  have hzl := hEl.size
  refine wpC_seq ?_
  refine wpC_seq ?_
  refine wpC_region ?_
  refine wpF_run 1 [(5, (.int .i64 ((t : Nat) : Int)))] (by kernel_rfl) ?_
  refine wpF_step (op_split (d := (some 6)) (decide (((t : Nat) : Int) < ((64 : Nat) : Int))) (by kernel_rfl) (fun hc6 => ?_) (fun hc6 => ?_))
  · replace hc6 : t < 64 := by have := of_d_t hc6; omega
    refine wpF_end (by kernel_rfl) ?_
    refine then_code ?_
    refine wpC_true (by kernel_rfl) ?_
    refine wpC_skip ?_
    refine then_code ?_
    refine wpC_seq ?_
    refine wpC_block ?_
    refine wpC_seq ?_
    refine wpC_seq ?_
    refine wpC_region ?_
    refine wpF_run 2 [(10, (.int .u64 ((u : Nat) : Int))), (9, (.int .u64 ((u : Nat) : Int)))] (by kernel_rfl) ?_
    obtain ⟨u1, hu1⟩ : ∃ z, z = (u + (2 ^ 64 - 1)) % 2 ^ 64 := ⟨_, rfl⟩
    refine wpF_step (op_eqv (d := (some 11)) (.int .u64 (IntKind.u64.wrap (((u : Nat) : Int) - ((1 : Nat) : Int)))) (.int .u64 ((u1 : Nat) : Int)) (by kernel_rfl) (congrArg (Value.int .u64) ((wrapUsub (k := .u64) rfl (by show _ ≤ 2 ^ 64; omega)).trans (by rw [hu1]; rfl))) ?_)
    refine wpF_step (op_callAt (d := (some 12)) (by kernel_rfl) (c_WordsNumbers u u1 _ (hu) (hu1 ▸ Nat.mod_lt _ (by decide))) ?_)
    rintro _ w2 ⟨rfl, hEw2⟩
    have hzw2 := hEw2.size
    refine wpF_run 3 [(15, (.int .u64 ((u : Nat) : Int))), (14, (.bool false)), (13, (.bool false))] (by kernel_rfl) ?_
    obtain ⟨u3, hu3⟩ : ∃ z, z = (u + 1) % 2 ^ 64 := ⟨_, rfl⟩
    refine wpF_step (op_eqv (d := (some 16)) (.int .u64 (IntKind.u64.wrap (((u : Nat) : Int) + ((1 : Nat) : Int)))) (.int .u64 ((u3 : Nat) : Int)) (by kernel_rfl) (congrArg (Value.int .u64) ((wrapU (m := u + 1) rfl (by simp)).trans (by rw [hu3]; rfl))) ?_)
    refine wpF_run 1 [(17, (.int .u64 ((u : Nat) : Int)))] (by kernel_rfl) ?_
    refine wpF_step (op_callAt (d := (some 18)) (by kernel_rfl) (c_WordsNumbers u3 u _ (hu3 ▸ Nat.mod_lt _ (by decide)) (hu)) ?_)
    rintro _ w3 ⟨rfl, hEw3⟩
    have hzw3 := hEw3.size
    refine wpF_run 2 [(20, (.bool false)), (19, (.bool false))] (by kernel_rfl) ?_
    refine wpF_end (by kernel_rfl) ?_
    refine then_code ?_
    refine wpC_false (by kernel_rfl) ?_
    refine wpC_skip ?_
    refine then_code ?_
    refine wpC_region ?_
    refine wpF_run 1 [(21, (.int .u64 ((u : Nat) : Int)))] (by kernel_rfl) ?_
    obtain ⟨u2, hu2⟩ : ∃ z, z = 2 * u % 2 ^ 64 := ⟨_, rfl⟩
    refine wpF_step (op_eqv (d := (some 22)) (.int .u64 (IntKind.u64.wrap (((2 : Nat) : Int) * ((u : Nat) : Int)))) (.int .u64 ((u2 : Nat) : Int)) (by kernel_rfl) (congrArg (Value.int .u64) ((wrapU (m := 2 * u) rfl (by simp)).trans (by rw [hu2]; rfl))) ?_)
    refine wpF_run 1 [(1, (.int .u64 ((u2 : Nat) : Int)))] (by kernel_rfl) ?_
    refine wpF_end (by kernel_rfl) ?_
    refine inBlock_normal ?_
    refine then_code ?_
    refine wpC_region ?_
    refine wpF_run 1 [(7, (.int .i64 ((t : Nat) : Int)))] (by kernel_rfl) ?_
    refine wpF_step (op_eqv (d := (some 8)) (.int .i64 (IntKind.i64.wrap (((t : Nat) : Int) + ((1 : Nat) : Int)))) (.int .i64 ((t + 1 : Nat) : Int)) (by kernel_rfl) (congrArg (Value.int .i64) (wrapS (by omega) (by omega) (by omega))) ?_)
    refine wpF_run 1 [(2, (.int .i64 ((t + 1 : Nat) : Int)))] (by kernel_rfl) ?_
    refine wpF_end (by kernel_rfl) ?_
    refine then_normal ?_
    refine endR_mk (t + 1, u2) (by kernel_rfl) ?_ ?_
    · exact ⟨by omega, hu2 ▸ Nat.mod_lt _ (by decide), ((hEl.trans hEw2).trans hEw3)⟩
    · first | omega | (dsimp only; omega)
  · replace hc6 : ¬ (t < 64) := by have := of_d_f hc6; omega
    refine wpF_end (by kernel_rfl) ?_
    refine then_code ?_
    refine wpC_false (by kernel_rfl) ?_
    refine wpC_exit ?_
    refine then_exit ?_
    refine then_exit ?_
    refine inBlock_exit ?_
    refine then_code ?_
    refine wpC_seq ?_
    refine wpC_seq ?_
    refine wpC_region ?_
    refine wpF_run 1 [(3, (.int .i64 (-70)))] (by kernel_rfl) ?_
    refine wpF_end (by kernel_rfl) ?_
    refine then_code ?_
    refine wpC_block ?_
    refine wpC_loop (X := Nat) (fun t => [(3, (.int .i64 ((t : Int) - 70)))]) [0, 23, 24, 25, 26, 27, 28, 29, 30, 31, 32, 33, 34, 35, 36] (fun t w4 => t ≤ 140 ∧ Ext w w4) (fun t => 140 - t) 0 (by kernel_rfl) ⟨by omega, hEl⟩ ?_
    rintro t dw4 w4 ⟨ht, hEl⟩
    have hzl := hEl.size
    refine wpC_seq ?_
    refine wpC_seq ?_
    refine wpC_region ?_
    refine wpF_run 1 [(23, (.int .i64 ((t : Int) - 70)))] (by kernel_rfl) ?_
    refine wpF_step (op_split (d := (some 24)) (decide ((t : Int) - 70 < ((70 : Nat) : Int))) (by kernel_rfl) (fun hc24 => ?_) (fun hc24 => ?_))
    · replace hc24 : (t : Int) - 70 < ((70 : Nat) : Int) := by have := of_d_t hc24; omega
      refine wpF_end (by kernel_rfl) ?_
      refine then_code ?_
      refine wpC_true (by kernel_rfl) ?_
      refine wpC_skip ?_
      refine then_code ?_
      refine wpC_seq ?_
      refine wpC_block ?_
      refine wpC_seq ?_
      refine wpC_region ?_
      refine wpF_run 1 [(27, (.int .i64 ((t : Int) - 70)))] (by kernel_rfl) ?_
      refine wpF_step (op_callAt (d := (some 28)) (by kernel_rfl) (c_WordsRot 2147483649 ((t : Int) - 70) ((3 : Nat) : Int) _ (by decide) (by omega) (by omega)) ?_)
      rintro _ w5 ⟨rfl, hEw5⟩
      have hzw5 := hEw5.size
      refine wpF_run 4 [(32, (.int .i64 ((t : Int) - 70))), (31, (.int .i64 ((t : Int) - 70))), (30, (.bool false)), (29, (.bool false))] (by kernel_rfl) ?_
      refine wpF_step (op_eqv (d := (some 33)) (.int .i64 (IntKind.i64.wrap (0 - ((t : Int) - 70)))) (.int .i64 (-((t : Int) - 70))) (by kernel_rfl) (congrArg (Value.int .i64) (wrapS (by omega) (by omega) (by omega))) ?_)
      refine wpF_step (op_callAt (d := (some 34)) (by kernel_rfl) (c_WordsRot 305419896 ((t : Int) - 70) (-((t : Int) - 70)) _ (by decide) (by omega) (by omega)) ?_)
      rintro _ w6 ⟨rfl, hEw6⟩
      have hzw6 := hEw6.size
      refine wpF_run 2 [(36, (.bool false)), (35, (.bool false))] (by kernel_rfl) ?_
      refine wpF_end (by kernel_rfl) ?_
      refine then_code ?_
      refine wpC_false (by kernel_rfl) ?_
      refine wpC_skip ?_
      refine inBlock_normal ?_
      refine then_code ?_
      refine wpC_region ?_
      refine wpF_run 1 [(25, (.int .i64 ((t : Int) - 70)))] (by kernel_rfl) ?_
      refine wpF_step (op_eqv (d := (some 26)) (.int .i64 (IntKind.i64.wrap ((t : Int) - 70 + ((1 : Nat) : Int)))) (.int .i64 (((t + 1 : Nat) : Int) - 70)) (by kernel_rfl) (congrArg (Value.int .i64) (wrapS (by omega) (by omega) (by omega))) ?_)
      refine wpF_run 1 [(3, (.int .i64 (((t + 1 : Nat) : Int) - 70)))] (by kernel_rfl) ?_
      refine wpF_end (by kernel_rfl) ?_
      refine then_normal ?_
      refine endR_mk (t + 1) (by kernel_rfl) ?_ ?_
      · exact ⟨by omega, ((hEl.trans hEw5).trans hEw6)⟩
      · first | omega | (dsimp only; omega)
    · replace hc24 : ¬ ((t : Int) - 70 < ((70 : Nat) : Int)) := by have := of_d_f hc24; omega
      refine wpF_end (by kernel_rfl) ?_
      refine then_code ?_
      refine wpC_false (by kernel_rfl) ?_
      refine wpC_exit ?_
      refine then_exit ?_
      refine then_exit ?_
      refine inBlock_exit ?_
      refine then_code ?_
      refine wpC_seq ?_
      refine wpC_seq ?_
      refine wpC_region ?_
      refine wpF_run 1 [(4, (.int .i64 ((0 : Nat) : Int)))] (by kernel_rfl) ?_
      refine wpF_end (by kernel_rfl) ?_
      refine then_code ?_
      refine wpC_block ?_
      refine wpC_loop (X := Nat) (fun t => [(4, (.int .i64 ((t : Nat) : Int)))]) [0, 37, 38, 39, 40, 41, 42, 43, 44] (fun t w7 => t ≤ 12 ∧ Ext w w7) (fun t => 12 - t) 0 (by kernel_rfl) ⟨by omega, hEl⟩ ?_
      rintro t dw7 w7 ⟨ht, hEl⟩
      have hzl := hEl.size
      refine wpC_seq ?_
      refine wpC_seq ?_
      refine wpC_region ?_
      refine wpF_run 1 [(37, (.int .i64 ((t : Nat) : Int)))] (by kernel_rfl) ?_
      refine wpF_step (op_split (d := (some 38)) (decide (((t : Nat) : Int) < ((12 : Nat) : Int))) (by kernel_rfl) (fun hc38 => ?_) (fun hc38 => ?_))
      · replace hc38 : t < 12 := by have := of_d_t hc38; omega
        refine wpF_end (by kernel_rfl) ?_
        refine then_code ?_
        refine wpC_true (by kernel_rfl) ?_
        refine wpC_skip ?_
        refine then_code ?_
        refine wpC_seq ?_
        refine wpC_block ?_
        refine wpC_seq ?_
        refine wpC_region ?_
        refine wpF_run 1 [(41, (.int .i64 ((t : Nat) : Int)))] (by kernel_rfl) ?_
        refine wpF_step (op_make (d := (some 42)) 23 5 1 1 t .i64 .i64 (.int .u8 ((0 : Nat) : Int)) (by kernel_rfl) (by kernel_rfl) (by kernel_rfl) (by omega) (by omega) ?_)
        rw [show (Value.cells (.int .u8 ((0 : Nat) : Int))) = #[(.int .u8 ((0 : Nat) : Int))] from rfl, Nat.mul_one, madeCells_one]
        intro w8 hBw8 hEw8
        have hzw8 := hEw8.size; have hlw8 := hBw8.lt
        have hSw8 : Bs w7.heap.size (w7.heap.size + 1) w8 (some ⟨w7.heap.size, 0, none⟩) t t (List.replicate t 0) := Bs.of_blk hBw8 (u8s_zero _) (by simp) (Nat.le_refl _) (by simp only [maxLen]; omega) (Nat.le_refl _) (Nat.lt_succ_self _)
        refine wpF_step (op_callAt (d := (some 43)) (by kernel_rfl) (c_WordsGet _ hSw8) ?_)
        rintro _ w9 ⟨rfl, hEw9⟩
        have hzw9 := hEw9.size
        refine wpF_run 1 [(44, (.bool false))] (by kernel_rfl) ?_
        refine wpF_end (by kernel_rfl) ?_
        refine then_code ?_
        refine wpC_false (by kernel_rfl) ?_
        refine wpC_skip ?_
        refine inBlock_normal ?_
        refine then_code ?_
        refine wpC_region ?_
        refine wpF_run 1 [(39, (.int .i64 ((t : Nat) : Int)))] (by kernel_rfl) ?_
        refine wpF_step (op_eqv (d := (some 40)) (.int .i64 (IntKind.i64.wrap (((t : Nat) : Int) + ((1 : Nat) : Int)))) (.int .i64 ((t + 1 : Nat) : Int)) (by kernel_rfl) (congrArg (Value.int .i64) (wrapS (by omega) (by omega) (by omega))) ?_)
        refine wpF_run 1 [(4, (.int .i64 ((t + 1 : Nat) : Int)))] (by kernel_rfl) ?_
        refine wpF_end (by kernel_rfl) ?_
        refine then_normal ?_
        refine endR_mk (t + 1) (by kernel_rfl) ?_ ?_
        · exact ⟨by omega, ((hEl.trans hEw8).trans hEw9)⟩
        · first | omega | (dsimp only; omega)
      · replace hc38 : ¬ (t < 12) := by have := of_d_f hc38; omega
        refine wpF_end (by kernel_rfl) ?_
        refine then_code ?_
        refine wpC_false (by kernel_rfl) ?_
        refine wpC_exit ?_
        refine then_exit ?_
        refine then_exit ?_
        refine inBlock_exit ?_
        refine then_code ?_
        refine wpC_seq ?_
        refine wpC_region ?_
        refine wpF_step (op_callAt (d := (some 45)) (by kernel_rfl) (c_Rot 305419896 ((8 : Nat) : Int) _ (by omega)) ?_)
        rintro _ _ ⟨rfl, rfl⟩
        rw [show rot 305419896 ((8 : Nat) : Int) = 878082066 from by decide]
        refine wpF_run 2 [(47, (.bool true)), (46, (.bool true))] (by kernel_rfl) ?_
        refine wpF_step (op_callAt (d := (some 48)) (by kernel_rfl) (c_Rot 305419896 (-9223372036854775808) _ (by omega)) ?_)
        rintro _ _ ⟨rfl, rfl⟩
        rw [show rot 305419896 (-9223372036854775808) = 305419896 from by decide]
        refine wpF_run 3 [(51, (.bool true)), (50, (.bool true)), (49, (.bool true))] (by kernel_rfl) ?_
        refine wpF_step (op_callAt (d := (some 52)) (by kernel_rfl) (c_Rot 1 ((9223372036854775807 : Nat) : Int) _ (by omega)) ?_)
        rintro _ _ ⟨rfl, rfl⟩
        rw [show rot 1 ((9223372036854775807 : Nat) : Int) = 2147483648 from by decide]
        refine wpF_run 3 [(55, (.bool true)), (54, (.bool true)), (53, (.bool true))] (by kernel_rfl) ?_
        refine wpF_step (op_callAt (d := (some 56)) (by kernel_rfl) (c_lives1 _) ?_)
        rintro _ w10 ⟨rfl, hEw10⟩
        have hzw10 := hEw10.size
        refine wpF_run 2 [(0, (.bool true)), (57, (.bool true))] (by kernel_rfl) ?_
        refine wpF_end (by kernel_rfl) ?_
        refine then_code ?_
        refine wpC_ret ?_
        refine body_ret1 (by kernel_rfl) (show resVal Try.prog 58 _ _ (.tmp 0) (.bool true) by (show _ = _; kernel_rfl)) ?_
        exact ⟨rfl, (hEl.trans hEw10)⟩

end Go.Proofs.Ytigeaknjhnichaa
