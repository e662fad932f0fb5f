/- CsL10b: what each function does, by its own code. No condition beyond those of each statement. -/
import Derived.Test.YtigeaknjhnichaaCsR4
import Derived.Test.YtigeaknjhnichaaCsRecs2
namespace Go.Proofs.Ytigeaknjhnichaa
open Go Go.RowKit Go.Cs
set_option maxRecDepth 100000
set_option linter.all false
set_option linter.unusedVariables false

theorem c_length (n : Nat) (m : Nat)  (w : World)  :
    Calls Try.prog 46 #[(.int .i64 ((n : Nat) : Int)), (.int .i64 ((m : Nat) : Int))] w (Ret fun r w' => r = (.int .i64 ((lenE n m : Nat) : Int)) ∧ w = w') := by
  refine calls_of (n := 11) (σ := [(0, (.int .i64 ((n : Nat) : Int))), (1, (.int .i64 ((m : Nat) : Int)))]) Try.func46 rfl (by kernel_rfl) ?_
  refine wpC_seq ?_
  refine wpC_region ?_
  refine wpF_run 1 [(4, (.int .i64 ((0 : Nat) : Int)))] (by kernel_rfl) ?_
  refine wpF_end (by kernel_rfl) ?_
  refine then_code ?_
  refine wpC_seq ?_
  refine wpC_seq ?_
  refine wpC_region ?_
  refine wpF_run 2 [(6, (.int .i64 ((m : Nat) : Int))), (5, (.int .i64 ((n : Nat) : Int)))] (by kernel_rfl) ?_
  refine wpF_step (op_split (d := (some 7)) (decide (((n : Nat) : Int) < ((m : Nat) : Int))) (by kernel_rfl) (fun hc7 => ?_) (fun hc7 => ?_))
  · replace hc7 : n < m := by have := of_d_t hc7; omega
    refine wpF_end (by kernel_rfl) ?_
    refine then_code ?_
    refine wpC_true (by kernel_rfl) ?_
    refine wpC_seq ?_
    refine wpC_region ?_
    refine wpF_run 1 [(4, (.int .i64 ((6 : Nat) : Int)))] (by kernel_rfl) ?_
    refine wpF_end (by kernel_rfl) ?_
    refine then_code ?_
    refine wpC_ret ?_
    refine then_ret ?_
    refine body_ret1 (by kernel_rfl) (show resVal Try.prog 11 _ _ (.tmp 4) (.int .i64 ((6 : Nat) : Int)) by (show _ = _; kernel_rfl)) ?_
    exact ⟨congrArg (fun z : Nat => Value.int .i64 (z : Int)) (by unfold lenE; first | rw [if_pos (by omega)] | (rw [if_neg (by omega), if_pos (by omega)]) | (rw [if_neg (by omega), if_neg (by omega)])), rfl⟩
  · replace hc7 : ¬ (n < m) := by have := of_d_f hc7; omega
    refine wpF_end (by kernel_rfl) ?_
    refine then_code ?_
    refine wpC_false (by kernel_rfl) ?_
    refine wpC_skip ?_
    refine then_code ?_
    refine wpC_seq ?_
    refine wpC_seq ?_
    refine wpC_region ?_
    refine wpF_run 2 [(9, (.int .i64 ((m : Nat) : Int))), (8, (.int .i64 ((n : Nat) : Int)))] (by kernel_rfl) ?_
    refine wpF_step (op_split (d := (some 10)) (decide (((n : Nat) : Int) > ((m : Nat) : Int))) (by kernel_rfl) (fun hc10 => ?_) (fun hc10 => ?_))
    · replace hc10 : n > m := by have := of_d_t hc10; omega
      refine wpF_end (by kernel_rfl) ?_
      refine then_code ?_
      refine wpC_true (by kernel_rfl) ?_
      refine wpC_seq ?_
      refine wpC_region ?_
      refine wpF_run 1 [(4, (.int .i64 ((5 : Nat) : Int)))] (by kernel_rfl) ?_
      refine wpF_end (by kernel_rfl) ?_
      refine then_code ?_
      refine wpC_ret ?_
      refine then_ret ?_
      refine body_ret1 (by kernel_rfl) (show resVal Try.prog 11 _ _ (.tmp 4) (.int .i64 ((5 : Nat) : Int)) by (show _ = _; kernel_rfl)) ?_
      exact ⟨congrArg (fun z : Nat => Value.int .i64 (z : Int)) (by unfold lenE; first | rw [if_pos (by omega)] | (rw [if_neg (by omega), if_pos (by omega)]) | (rw [if_neg (by omega), if_neg (by omega)])), rfl⟩
    · replace hc10 : ¬ (n > m) := by have := of_d_f hc10; omega
      refine wpF_end (by kernel_rfl) ?_
      refine then_code ?_
      refine wpC_false (by kernel_rfl) ?_
      refine wpC_skip ?_
      refine then_code ?_
      refine wpC_seq ?_
      refine wpC_region ?_
      refine wpF_run 1 [(4, (.int .i64 ((0 : Nat) : Int)))] (by kernel_rfl) ?_
      refine wpF_end (by kernel_rfl) ?_
      refine then_code ?_
      refine wpC_ret ?_
      refine body_ret1 (by kernel_rfl) (show resVal Try.prog 11 _ _ (.tmp 4) (.int .i64 ((0 : Nat) : Int)) by (show _ = _; kernel_rfl)) ?_
      exact ⟨congrArg (fun z : Nat => Value.int .i64 (z : Int)) (by unfold lenE; first | rw [if_pos (by omega)] | (rw [if_neg (by omega), if_pos (by omega)]) | (rw [if_neg (by omega), if_neg (by omega)])), rfl⟩

theorem c_wantedLen (e : Nat) (k : Nat) (b : Bool)  (w : World) (hp0 : k ≠ 0) (hp1 : e = k) :
    Calls Try.prog 47 #[(.int .i64 ((e : Nat) : Int)), (.int .i64 ((k : Nat) : Int)), (.bool b)] w (Ret fun r w' => r = (.bool true) ∧ w = w') := by
  refine calls_of (n := 17) (σ := [(0, (.int .i64 ((e : Nat) : Int))), (1, (.int .i64 ((k : Nat) : Int))), (2, (.bool b))]) Try.func47 rfl (by kernel_rfl) ?_
  refine wpC_seq ?_
  refine wpC_region ?_
  refine wpF_run 1 [(6, (.bool false))] (by kernel_rfl) ?_
  refine wpF_end (by kernel_rfl) ?_
  refine then_code ?_
  refine wpC_seq ?_
  refine wpC_seq ?_
  refine wpC_region ?_
  refine wpF_run 1 [(7, (.int .i64 ((k : Nat) : Int)))] (by kernel_rfl) ?_
  refine wpF_step (op_eqv (d := (some 8)) (.bool ((((k : Nat) : Int) != ((0 : Nat) : Int)))) (.bool true) (by kernel_rfl) (congrArg Value.bool (cmpNeT (by omega))) ?_)
  refine wpF_end (by kernel_rfl) ?_
  refine then_code ?_
  refine wpC_true (by kernel_rfl) ?_
  refine wpC_seq ?_
  refine wpC_region ?_
  refine wpF_run 2 [(10, (.int .i64 ((k : Nat) : Int))), (9, (.int .i64 ((e : Nat) : Int)))] (by kernel_rfl) ?_
  refine wpF_step (op_eqv (d := (some 11)) (.bool ((((e : Nat) : Int) == ((k : Nat) : Int)))) (.bool true) (by kernel_rfl) (congrArg Value.bool (cmpEqT (by omega))) ?_)
  refine wpF_run 1 [(6, (.bool true))] (by kernel_rfl) ?_
  refine wpF_end (by kernel_rfl) ?_
  refine then_code ?_
  refine wpC_ret ?_
  refine then_ret ?_
  refine body_ret1 (by kernel_rfl) (show resVal Try.prog 17 _ _ (.tmp 6) (.bool true) by (show _ = _; kernel_rfl)) ?_
  exact ⟨rfl, rfl⟩

theorem c_wanted1   (w : World)  :
    Calls Try.prog 47 #[(.int .i64 ((1 : Nat) : Int)), (.int .i64 ((0 : Nat) : Int)), (.bool true)] w (Ret fun r w' => r = (.bool true) ∧ w = w') := by
  refine calls_of (n := 17) (σ := [(0, (.int .i64 ((1 : Nat) : Int))), (1, (.int .i64 ((0 : Nat) : Int))), (2, (.bool true))]) Try.func47 rfl (by kernel_rfl) ?_
  refine wpC_seq ?_
  refine wpC_region ?_
  refine wpF_run 1 [(6, (.bool false))] (by kernel_rfl) ?_
  refine wpF_end (by kernel_rfl) ?_
  refine then_code ?_
  refine wpC_seq ?_
  refine wpC_seq ?_
  refine wpC_region ?_
  refine wpF_run 2 [(8, (.bool false)), (7, (.int .i64 ((0 : Nat) : Int)))] (by kernel_rfl) ?_
  refine wpF_end (by kernel_rfl) ?_
  refine then_code ?_
  refine wpC_false (by kernel_rfl) ?_
  refine wpC_skip ?_
  refine then_code ?_
  refine wpC_seq ?_
  refine wpC_seq ?_
  refine wpC_region ?_
  refine wpF_run 1 [(12, (.bool true))] (by kernel_rfl) ?_
  refine wpF_end (by kernel_rfl) ?_
  refine then_code ?_
  refine wpC_true (by kernel_rfl) ?_
  refine wpC_seq ?_
  refine wpC_region ?_
  refine wpF_run 3 [(6, (.bool true)), (14, (.bool true)), (13, (.int .i64 ((1 : Nat) : Int)))] (by kernel_rfl) ?_
  refine wpF_end (by kernel_rfl) ?_
  refine then_code ?_
  refine wpC_ret ?_
  refine then_ret ?_
  refine body_ret1 (by kernel_rfl) (show resVal Try.prog 17 _ _ (.tmp 6) (.bool true) by (show _ = _; kernel_rfl)) ?_
  exact ⟨rfl, rfl⟩

theorem c_wanted0   (w : World)  :
    Calls Try.prog 47 #[(.int .i64 ((0 : Nat) : Int)), (.int .i64 ((0 : Nat) : Int)), (.bool false)] w (Ret fun r w' => r = (.bool true) ∧ w = w') := by
  refine calls_of (n := 17) (σ := [(0, (.int .i64 ((0 : Nat) : Int))), (1, (.int .i64 ((0 : Nat) : Int))), (2, (.bool false))]) Try.func47 rfl (by kernel_rfl) ?_
  refine wpC_seq ?_
  refine wpC_region ?_
  refine wpF_run 1 [(6, (.bool false))] (by kernel_rfl) ?_
  refine wpF_end (by kernel_rfl) ?_
  refine then_code ?_
  refine wpC_seq ?_
  refine wpC_seq ?_
  refine wpC_region ?_
  refine wpF_run 2 [(8, (.bool false)), (7, (.int .i64 ((0 : Nat) : Int)))] (by kernel_rfl) ?_
  refine wpF_end (by kernel_rfl) ?_
  refine then_code ?_
  refine wpC_false (by kernel_rfl) ?_
  refine wpC_skip ?_
  refine then_code ?_
  refine wpC_seq ?_
  refine wpC_seq ?_
  refine wpC_region ?_
  refine wpF_run 1 [(12, (.bool false))] (by kernel_rfl) ?_
  refine wpF_end (by kernel_rfl) ?_
  refine then_code ?_
  refine wpC_false (by kernel_rfl) ?_
  refine wpC_skip ?_
  refine then_code ?_
  refine wpC_seq ?_
  refine wpC_region ?_
  refine wpF_run 3 [(6, (.bool true)), (16, (.bool true)), (15, (.int .i64 ((0 : Nat) : Int)))] (by kernel_rfl) ?_
  refine wpF_end (by kernel_rfl) ?_
  refine then_code ?_
  refine wpC_ret ?_
  refine body_ret1 (by kernel_rfl) (show resVal Try.prog 17 _ _ (.tmp 6) (.bool true) by (show _ = _; kernel_rfl)) ?_
  exact ⟨rfl, rfl⟩

theorem c_RecordsGetBig {lo_l hi_l : Nat} {a_l : Option Addr} {n_l c_l : Nat} {l : List UInt8}  (w : World) (h_l : Bs lo_l hi_l w a_l n_l c_l l) (hp0 : 60 < n_l) :
    Calls Try.prog 13 #[(.slice a_l n_l c_l)] w (Ret fun r w' => r = (.bool true) ∧ Ext w w') := by
  refine calls_of (n := 146) (σ := [(0, (.slice a_l n_l c_l))]) Try.func13 rfl (by kernel_rfl) ?_
  replace h_l := h_l.now; have hle_l := h_l.le
  refine wpC_seq ?_
  refine wpC_region ?_
  refine wpF_run 1 [(2, (.bool false))] (by kernel_rfl) ?_
  refine wpF_end (by kernel_rfl) ?_
  refine then_code ?_
  refine wpC_seq ?_
  refine wpC_seq ?_
  refine wpC_region ?_
  refine wpF_run 2 [(13, (.int .i64 ((n_l : Nat) : Int))), (12, (.slice a_l n_l c_l))] (by kernel_rfl) ?_
  refine wpF_step (op_eqv (d := (some 14)) (.bool (decide (((n_l : Nat) : Int) > ((60 : Nat) : Int)))) (.bool true) (by kernel_rfl) (congrArg Value.bool (cmpDT (by omega))) ?_)
  refine wpF_end (by kernel_rfl) ?_
  refine then_code ?_
  refine wpC_true (by kernel_rfl) ?_
  refine wpC_seq ?_
  refine wpC_region ?_
  refine wpF_step (op_callAt (d := (some 15)) (by kernel_rfl) (c_lives10 _) ?_)
  rintro _ w1 ⟨rfl, hEw1⟩
  have hzw1 := hEw1.size
  refine wpF_run 1 [(2, (.bool true))] (by kernel_rfl) ?_
  refine wpF_end (by kernel_rfl) ?_
  refine then_code ?_
  refine wpC_ret ?_
  refine then_ret ?_
  refine body_ret1 (by kernel_rfl) (show resVal Try.prog 146 _ _ (.tmp 2) (.bool true) by (show _ = _; kernel_rfl)) ?_
  exact ⟨rfl, hEw1⟩

end Go.Proofs.Ytigeaknjhnichaa
