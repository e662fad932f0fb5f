/- CsR1: what each function does, by its own code. No condition beyond those of each statement. -/
import Derived.Test.YtigeaknjhnichaaCsW3
import Derived.Test.YtigeaknjhnichaaCsRecs
namespace Go.Proofs.Ytigeaknjhnichaa
open Go Go.RowKit Go.Cs
set_option maxRecDepth 100000
set_option linter.all false
set_option linter.unusedVariables false

theorem c_same10 {lo_l hi_l : Nat} {a_l : Option Addr} {n_l c_l : Nat} {l : List UInt8} (e : Nat) {lo_m hi_m : Nat} {a_m : Option Addr} {n_m c_m : Nat} {m : List UInt8} (f : Nat)  (w : World) (h_l : Bs lo_l hi_l w a_l n_l c_l l) (h_m : Bs lo_m hi_m w a_m n_m c_m m) (hp0 : e = f) (hp1 : l = m) (hp2 : c_l = n_l) :
    Calls Try.prog 32 #[(.slice a_l n_l c_l), (.int .i64 ((e : Nat) : Int)), (.slice a_m n_m c_m), (.int .i64 ((f : Nat) : Int))] w (Ret fun r w' => r = (.bool true) ∧ w = w') := by
  refine calls_of (n := 26) (σ := [(0, (.slice a_l n_l c_l)), (1, (.int .i64 ((e : Nat) : Int))), (2, (.slice a_m n_m c_m)), (3, (.int .i64 ((f : Nat) : Int)))]) Try.func32 rfl (by kernel_rfl) ?_
  replace h_l := h_l.now; have hle_l := h_l.le
  replace h_m := h_m.now; have hle_m := h_m.le
  refine wpC_seq ?_
  refine wpC_region ?_
  refine wpF_run 1 [(8, (.bool false))] (by kernel_rfl) ?_
  refine wpF_end (by kernel_rfl) ?_
  refine then_code ?_
  refine wpC_seq ?_
  refine wpC_region ?_
  refine wpF_run 2 [(10, (.int .i64 ((f : Nat) : Int))), (9, (.int .i64 ((e : Nat) : Int)))] (by kernel_rfl) ?_
  refine wpF_step (op_eqv (d := (some 11)) (.bool ((((e : Nat) : Int) == ((f : Nat) : Int)))) (.bool true) (by kernel_rfl) (congrArg Value.bool (by rw [hp0]; simp)) ?_)
  refine wpF_run 2 [(13, (.slice a_l n_l c_l)), (12, (.bool true))] (by kernel_rfl) ?_
  refine wpF_step (op_v (d := (some 14)) (s := convert 23 9 (.slice a_l n_l c_l)) (v := (.string ⟨(l).toArray⟩)) (by kernel_rfl) (run_string (E := 5) (by kernel_rfl) (by kernel_rfl) (by kernel_rfl) h_l) ?_)
  refine wpF_run 1 [(15, (.slice a_m n_m c_m))] (by kernel_rfl) ?_
  refine wpF_step (op_v (d := (some 16)) (s := convert 23 9 (.slice a_m n_m c_m)) (v := (.string ⟨(m).toArray⟩)) (by kernel_rfl) (run_string (E := 5) (by kernel_rfl) (by kernel_rfl) (by kernel_rfl) h_m) ?_)
  refine wpF_step (op_eqv (d := (some 17)) (.bool ((⟨(l).toArray⟩ : ByteArray).toList == (⟨(m).toArray⟩ : ByteArray).toList)) (.bool true) (by kernel_rfl) (congrArg Value.bool (strT (hp1))) ?_)
  refine wpF_run 6 [(23, (.int .i64 ((n_l : Nat) : Int))), (22, (.slice a_l n_l c_l)), (21, (.int .i64 ((c_l : Nat) : Int))), (20, (.slice a_l n_l c_l)), (19, (.bool true)), (18, (.bool true))] (by kernel_rfl) ?_
  refine wpF_step (op_eqv (d := (some 24)) (.bool ((((c_l : Nat) : Int) == ((n_l : Nat) : Int)))) (.bool true) (by kernel_rfl) (congrArg Value.bool (by rw [hp2]; simp)) ?_)
  refine wpF_run 2 [(8, (.bool true)), (25, (.bool true))] (by kernel_rfl) ?_
  refine wpF_end (by kernel_rfl) ?_
  refine then_code ?_
  refine wpC_ret ?_
  refine body_ret1 (by kernel_rfl) (show resVal Try.prog 26 _ _ (.tmp 8) (.bool true) by (show _ = _; kernel_rfl)) ?_
  exact ⟨rfl, rfl⟩

theorem c_CheckRecord (x : Rec)  (w : World)  :
    Calls Try.prog 31 #[(.agg (recC x).toArray)] w (Ret fun r w' => r = (.int .i64 ((chkR x : Nat) : Int)) ∧ Ext w w') := by
  refine calls_of (n := 16) (σ := [(0, (.agg (recC x).toArray))]) Try.func31 rfl (by kernel_rfl) ?_
  refine wpC_seq ?_
  refine wpC_region ?_
  refine wpF_step (op_new (d := (some 1)) (s := Instr.box 52 (.agg (recC x).toArray)) (.pointer (some ⟨w.heap.size, 0, none⟩)) (recC x) 52 (by kernel_rfl) (by kernel_rfl) ?_)
  intro w1 hBw1 hEw1
  have hzw1 := hEw1.size; have hlw1 := hBw1.lt
  refine wpF_run 1 [(2, (.int .i64 ((0 : Nat) : Int)))] (by kernel_rfl) ?_
  refine wpF_end (by kernel_rfl) ?_
  refine then_code ?_
  refine wpC_seq ?_
  refine wpC_seq ?_
  refine wpC_region ?_
  refine wpF_run 1 [(3, (.pointer (some ⟨w.heap.size, 0, none⟩)))] (by kernel_rfl) ?_
  refine wpF_step (op_v (d := (some 4)) (s := Instr.loadAt 5 (.pointer (some ⟨w.heap.size, 0, none⟩))) (v := (.int .u8 ((x.st : Nat) : Int))) (by kernel_rfl) (rn_ld (by kernel_rfl) (hBw1.cell rfl)) ?_)
  refine wpF_step (op_split (d := (some 5)) (decide (((x.st : Nat) : Int) > ((2 : Nat) : Int))) (by kernel_rfl) (fun hc5 => ?_) (fun hc5 => ?_))
  · replace hc5 : x.st > 2 := by have := of_d_t hc5; omega
    refine wpF_run 10 [(15, (.bool true)), (14, undef), (13, undef), (12, undef), (11, undef), (10, undef), (9, undef), (8, undef), (7, undef), (6, (.bool true))] (by kernel_rfl) ?_
    refine wpF_end (by kernel_rfl) ?_
    refine then_code ?_
    refine wpC_true (by kernel_rfl) ?_
    refine wpC_seq ?_
    refine wpC_region ?_
    refine wpF_run 1 [(2, (.int .i64 ((1 : Nat) : Int)))] (by kernel_rfl) ?_
    refine wpF_end (by kernel_rfl) ?_
    refine then_code ?_
    refine wpC_ret ?_
    refine then_ret ?_
    refine body_ret1 (by kernel_rfl) (show resVal Try.prog 16 _ _ (.tmp 2) (.int .i64 ((1 : Nat) : Int)) by (show _ = _; kernel_rfl)) ?_
    exact ⟨congrArg (fun z : Nat => Value.int .i64 (z : Int)) (by unfold chkR; simp_all [] <;> omega), hEw1⟩
  · replace hc5 : ¬ (x.st > 2) := by have := of_d_f hc5; omega
    refine wpF_run 2 [(7, (.pointer (some ⟨w.heap.size, 0, none⟩))), (6, (.bool false))] (by kernel_rfl) ?_
    refine wpF_step (op_v (d := (some 8)) (s := Instr.loadAt 5 (.pointer (some ⟨w.heap.size, 0, none⟩))) (v := (.int .u8 ((x.st : Nat) : Int))) (by kernel_rfl) (rn_ld (by kernel_rfl) (hBw1.cell rfl)) ?_)
    refine wpF_step (op_split (d := (some 9)) ((((x.st : Nat) : Int) == ((0 : Nat) : Int))) (by kernel_rfl) (fun hc9 => ?_) (fun hc9 => ?_))
    · replace hc9 : x.st = 0 := by have := of_eq_t hc9; omega
      refine wpF_run 1 [(10, (.bool true))] (by kernel_rfl) ?_
      refine wpF_step (op_v (d := (some 11)) (s := Instr.loadAt 52 (.pointer (some ⟨w.heap.size, 0, none⟩))) (v := (.agg (recC x).toArray)) (by kernel_rfl) (rn_lda (vs := recC x) (by kernel_rfl) (by rw [recC_len]; kernel_rfl) (hBw1.all)) ?_)
      refine wpF_run 1 [(12, (.agg (recC Rec.zero).toArray))] (by kernel_rfl) ?_
      rcases Bool.eq_false_or_eq_true (x.eqb Rec.zero) with hq13 | hq13
      · refine wpF_step (op_v (d := (some 13)) (s := (do eqGuard .neq 52 (.tmp 11) (.tmp 12) (.agg (recC x).toArray) (.agg (recC Rec.zero).toArray); binOp .neq 52 (.agg (recC x).toArray) (.agg (recC Rec.zero).toArray) : Sem Value)) (v := (.bool false)) (by kernel_rfl) (run_neqAgg (r := true) (T := 52) (by kernel_rfl) ((run_eq_rec (dd := 9997) (t := 52) (t8 := 5) (tn := 48) (td := 50) (e := 5) (t32 := 28) (t64 := 22) x Rec.zero (by kernel_rfl) (by kernel_rfl) (by kernel_rfl) (by kernel_rfl) (by kernel_rfl) (by kernel_rfl) (by kernel_rfl) (by kernel_rfl) (by kernel_rfl) (by kernel_rfl) (by kernel_rfl) (by kernel_rfl)).trans (congrArg (fun b => Result.ok b _) (show (x.eqb Rec.zero) = true from hq13)))) ?_)
        refine wpF_run 2 [(15, (.bool false)), (14, (.bool false))] (by kernel_rfl) ?_
        refine wpF_end (by kernel_rfl) ?_
        refine then_code ?_
        refine wpC_false (by kernel_rfl) ?_
        refine wpC_skip ?_
        refine then_code ?_
        refine wpC_seq ?_
        refine wpC_region ?_
        refine wpF_run 1 [(2, (.int .i64 ((0 : Nat) : Int)))] (by kernel_rfl) ?_
        refine wpF_end (by kernel_rfl) ?_
        refine then_code ?_
        refine wpC_ret ?_
        refine body_ret1 (by kernel_rfl) (show resVal Try.prog 16 _ _ (.tmp 2) (.int .i64 ((0 : Nat) : Int)) by (show _ = _; kernel_rfl)) ?_
        exact ⟨congrArg (fun z : Nat => Value.int .i64 (z : Int)) (by unfold chkR; simp_all [] <;> omega), hEw1⟩
      · refine wpF_step (op_v (d := (some 13)) (s := (do eqGuard .neq 52 (.tmp 11) (.tmp 12) (.agg (recC x).toArray) (.agg (recC Rec.zero).toArray); binOp .neq 52 (.agg (recC x).toArray) (.agg (recC Rec.zero).toArray) : Sem Value)) (v := (.bool true)) (by kernel_rfl) (run_neqAgg (r := false) (T := 52) (by kernel_rfl) ((run_eq_rec (dd := 9997) (t := 52) (t8 := 5) (tn := 48) (td := 50) (e := 5) (t32 := 28) (t64 := 22) x Rec.zero (by kernel_rfl) (by kernel_rfl) (by kernel_rfl) (by kernel_rfl) (by kernel_rfl) (by kernel_rfl) (by kernel_rfl) (by kernel_rfl) (by kernel_rfl) (by kernel_rfl) (by kernel_rfl) (by kernel_rfl)).trans (congrArg (fun b => Result.ok b _) (show (x.eqb Rec.zero) = false from hq13)))) ?_)
        refine wpF_run 2 [(15, (.bool true)), (14, (.bool true))] (by kernel_rfl) ?_
        refine wpF_end (by kernel_rfl) ?_
        refine then_code ?_
        refine wpC_true (by kernel_rfl) ?_
        refine wpC_seq ?_
        refine wpC_region ?_
        refine wpF_run 1 [(2, (.int .i64 ((1 : Nat) : Int)))] (by kernel_rfl) ?_
        refine wpF_end (by kernel_rfl) ?_
        refine then_code ?_
        refine wpC_ret ?_
        refine then_ret ?_
        refine body_ret1 (by kernel_rfl) (show resVal Try.prog 16 _ _ (.tmp 2) (.int .i64 ((1 : Nat) : Int)) by (show _ = _; kernel_rfl)) ?_
        exact ⟨congrArg (fun z : Nat => Value.int .i64 (z : Int)) (by unfold chkR; simp_all [] <;> omega), hEw1⟩
    · replace hc9 : ¬ (x.st = 0) := by have := of_eq_f hc9; omega
      refine wpF_run 6 [(15, (.bool false)), (14, (.bool false)), (13, undef), (12, undef), (11, undef), (10, (.bool false))] (by kernel_rfl) ?_
      refine wpF_end (by kernel_rfl) ?_
      refine then_code ?_
      refine wpC_false (by kernel_rfl) ?_
      refine wpC_skip ?_
      refine then_code ?_
      refine wpC_seq ?_
      refine wpC_region ?_
      refine wpF_run 1 [(2, (.int .i64 ((0 : Nat) : Int)))] (by kernel_rfl) ?_
      refine wpF_end (by kernel_rfl) ?_
      refine then_code ?_
      refine wpC_ret ?_
      refine body_ret1 (by kernel_rfl) (show resVal Try.prog 16 _ _ (.tmp 2) (.int .i64 ((0 : Nat) : Int)) by (show _ = _; kernel_rfl)) ?_
      exact ⟨congrArg (fun z : Nat => Value.int .i64 (z : Int)) (by unfold chkR; simp_all [] <;> omega), hEw1⟩

theorem c_CheckEntry (x : Ent)  (w : World)  :
    Calls Try.prog 38 #[(.agg (entC x).toArray)] w (Ret fun r w' => r = (.int .i64 ((chkE x : Nat) : Int)) ∧ Ext w w') := by
  refine calls_of (n := 16) (σ := [(0, (.agg (entC x).toArray))]) Try.func38 rfl (by kernel_rfl) ?_
  refine wpC_seq ?_
  refine wpC_region ?_
  refine wpF_step (op_new (d := (some 1)) (s := Instr.box 61 (.agg (entC x).toArray)) (.pointer (some ⟨w.heap.size, 0, none⟩)) (entC x) 61 (by kernel_rfl) (by kernel_rfl) ?_)
  intro w1 hBw1 hEw1
  have hzw1 := hEw1.size; have hlw1 := hBw1.lt
  refine wpF_run 1 [(2, (.int .i64 ((0 : Nat) : Int)))] (by kernel_rfl) ?_
  refine wpF_end (by kernel_rfl) ?_
  refine then_code ?_
  refine wpC_seq ?_
  refine wpC_seq ?_
  refine wpC_region ?_
  refine wpF_run 1 [(3, (.pointer (some ⟨w.heap.size, 0, none⟩)))] (by kernel_rfl) ?_
  refine wpF_step (op_v (d := (some 4)) (s := Instr.loadAt 5 (.pointer (some ⟨w.heap.size, 0, none⟩))) (v := (.int .u8 ((x.st : Nat) : Int))) (by kernel_rfl) (rn_ld (by kernel_rfl) (hBw1.cell rfl)) ?_)
  refine wpF_step (op_split (d := (some 5)) (decide (((x.st : Nat) : Int) > ((2 : Nat) : Int))) (by kernel_rfl) (fun hc5 => ?_) (fun hc5 => ?_))
  · replace hc5 : x.st > 2 := by have := of_d_t hc5; omega
    refine wpF_run 10 [(15, (.bool true)), (14, undef), (13, undef), (12, undef), (11, undef), (10, undef), (9, undef), (8, undef), (7, undef), (6, (.bool true))] (by kernel_rfl) ?_
    refine wpF_end (by kernel_rfl) ?_
    refine then_code ?_
    refine wpC_true (by kernel_rfl) ?_
    refine wpC_seq ?_
    refine wpC_region ?_
    refine wpF_run 1 [(2, (.int .i64 ((1 : Nat) : Int)))] (by kernel_rfl) ?_
    refine wpF_end (by kernel_rfl) ?_
    refine then_code ?_
    refine wpC_ret ?_
    refine then_ret ?_
    refine body_ret1 (by kernel_rfl) (show resVal Try.prog 16 _ _ (.tmp 2) (.int .i64 ((1 : Nat) : Int)) by (show _ = _; kernel_rfl)) ?_
    exact ⟨congrArg (fun z : Nat => Value.int .i64 (z : Int)) (by unfold chkE; simp_all [] <;> omega), hEw1⟩
  · replace hc5 : ¬ (x.st > 2) := by have := of_d_f hc5; omega
    refine wpF_run 2 [(7, (.pointer (some ⟨w.heap.size, 0, none⟩))), (6, (.bool false))] (by kernel_rfl) ?_
    refine wpF_step (op_v (d := (some 8)) (s := Instr.loadAt 5 (.pointer (some ⟨w.heap.size, 0, none⟩))) (v := (.int .u8 ((x.st : Nat) : Int))) (by kernel_rfl) (rn_ld (by kernel_rfl) (hBw1.cell rfl)) ?_)
    refine wpF_step (op_split (d := (some 9)) ((((x.st : Nat) : Int) == ((0 : Nat) : Int))) (by kernel_rfl) (fun hc9 => ?_) (fun hc9 => ?_))
    · replace hc9 : x.st = 0 := by have := of_eq_t hc9; omega
      refine wpF_run 1 [(10, (.bool true))] (by kernel_rfl) ?_
      refine wpF_step (op_v (d := (some 11)) (s := Instr.loadAt 61 (.pointer (some ⟨w.heap.size, 0, none⟩))) (v := (.agg (entC x).toArray)) (by kernel_rfl) (rn_lda (vs := entC x) (by kernel_rfl) (by rw [entC_len]; kernel_rfl) (hBw1.all)) ?_)
      refine wpF_run 1 [(12, (.agg (entC Ent.zero).toArray))] (by kernel_rfl) ?_
      rcases Bool.eq_false_or_eq_true (x.eqb Ent.zero) with hq13 | hq13
      · refine wpF_step (op_v (d := (some 13)) (s := (do eqGuard .neq 61 (.tmp 11) (.tmp 12) (.agg (entC x).toArray) (.agg (entC Ent.zero).toArray); binOp .neq 61 (.agg (entC x).toArray) (.agg (entC Ent.zero).toArray) : Sem Value)) (v := (.bool false)) (by kernel_rfl) (run_neqAgg (r := true) (T := 61) (by kernel_rfl) ((run_eq_ent (dd := 9997) (t := 61) (t8 := 5) (td := 50) (e := 5) x Ent.zero (by kernel_rfl) (by kernel_rfl) (by kernel_rfl) (by kernel_rfl) (by kernel_rfl) (by kernel_rfl) (by kernel_rfl)).trans (congrArg (fun b => Result.ok b _) (show (x.eqb Ent.zero) = true from hq13)))) ?_)
        refine wpF_run 2 [(15, (.bool false)), (14, (.bool false))] (by kernel_rfl) ?_
        refine wpF_end (by kernel_rfl) ?_
        refine then_code ?_
        refine wpC_false (by kernel_rfl) ?_
        refine wpC_skip ?_
        refine then_code ?_
        refine wpC_seq ?_
        refine wpC_region ?_
        refine wpF_run 1 [(2, (.int .i64 ((0 : Nat) : Int)))] (by kernel_rfl) ?_
        refine wpF_end (by kernel_rfl) ?_
        refine then_code ?_
        refine wpC_ret ?_
        refine body_ret1 (by kernel_rfl) (show resVal Try.prog 16 _ _ (.tmp 2) (.int .i64 ((0 : Nat) : Int)) by (show _ = _; kernel_rfl)) ?_
        exact ⟨congrArg (fun z : Nat => Value.int .i64 (z : Int)) (by unfold chkE; simp_all [] <;> omega), hEw1⟩
      · refine wpF_step (op_v (d := (some 13)) (s := (do eqGuard .neq 61 (.tmp 11) (.tmp 12) (.agg (entC x).toArray) (.agg (entC Ent.zero).toArray); binOp .neq 61 (.agg (entC x).toArray) (.agg (entC Ent.zero).toArray) : Sem Value)) (v := (.bool true)) (by kernel_rfl) (run_neqAgg (r := false) (T := 61) (by kernel_rfl) ((run_eq_ent (dd := 9997) (t := 61) (t8 := 5) (td := 50) (e := 5) x Ent.zero (by kernel_rfl) (by kernel_rfl) (by kernel_rfl) (by kernel_rfl) (by kernel_rfl) (by kernel_rfl) (by kernel_rfl)).trans (congrArg (fun b => Result.ok b _) (show (x.eqb Ent.zero) = false from hq13)))) ?_)
        refine wpF_run 2 [(15, (.bool true)), (14, (.bool true))] (by kernel_rfl) ?_
        refine wpF_end (by kernel_rfl) ?_
        refine then_code ?_
        refine wpC_true (by kernel_rfl) ?_
        refine wpC_seq ?_
        refine wpC_region ?_
        refine wpF_run 1 [(2, (.int .i64 ((1 : Nat) : Int)))] (by kernel_rfl) ?_
        refine wpF_end (by kernel_rfl) ?_
        refine then_code ?_
        refine wpC_ret ?_
        refine then_ret ?_
        refine body_ret1 (by kernel_rfl) (show resVal Try.prog 16 _ _ (.tmp 2) (.int .i64 ((1 : Nat) : Int)) by (show _ = _; kernel_rfl)) ?_
        exact ⟨congrArg (fun z : Nat => Value.int .i64 (z : Int)) (by unfold chkE; simp_all [] <;> omega), hEw1⟩
    · replace hc9 : ¬ (x.st = 0) := by have := of_eq_f hc9; omega
      refine wpF_run 6 [(15, (.bool false)), (14, (.bool false)), (13, undef), (12, undef), (11, undef), (10, (.bool false))] (by kernel_rfl) ?_
      refine wpF_end (by kernel_rfl) ?_
      refine then_code ?_
      refine wpC_false (by kernel_rfl) ?_
      refine wpC_skip ?_
      refine then_code ?_
      refine wpC_seq ?_
      refine wpC_region ?_
      refine wpF_run 1 [(2, (.int .i64 ((0 : Nat) : Int)))] (by kernel_rfl) ?_
      refine wpF_end (by kernel_rfl) ?_
      refine then_code ?_
      refine wpC_ret ?_
      refine body_ret1 (by kernel_rfl) (show resVal Try.prog 16 _ _ (.tmp 2) (.int .i64 ((0 : Nat) : Int)) by (show _ = _; kernel_rfl)) ?_
      exact ⟨congrArg (fun z : Nat => Value.int .i64 (z : Int)) (by unfold chkE; simp_all [] <;> omega), hEw1⟩

theorem c_rCheckRecord (x : Rec)  (w : World)  :
    Calls Try.prog 29 #[(.agg (recC x).toArray)] w (Ret fun r w' => r = (.int .i64 ((chkR x : Nat) : Int)) ∧ Ext w w') := by
  refine calls_of (n := 36) (σ := [(0, (.agg (recC x).toArray))]) Try.func29 rfl (by kernel_rfl) ?_
  refine wpC_seq ?_
  refine wpC_region ?_
  refine wpF_step (op_new (d := (some 1)) (s := Instr.box 52 (.agg (recC x).toArray)) (.pointer (some ⟨w.heap.size, 0, none⟩)) (recC x) 52 (by kernel_rfl) (by kernel_rfl) ?_)
  intro w1 hBw1 hEw1
  have hzw1 := hEw1.size; have hlw1 := hBw1.lt
  refine wpF_run 1 [(2, (.int .i64 ((0 : Nat) : Int)))] (by kernel_rfl) ?_
  refine wpF_end (by kernel_rfl) ?_
  refine then_code ?_
  refine wpC_seq ?_
  refine wpC_region ?_
  refine wpF_run 2 [(5, (.pointer (some ⟨w.heap.size, 1, none⟩))), (4, (.pointer (some ⟨w.heap.size, 1, none⟩)))] (by kernel_rfl) ?_
  refine wpF_step (op_v (d := (some 6)) (s := Instr.loadAt 28 (.pointer (some ⟨w.heap.size, 1, none⟩))) (v := (.int .u32 ((x.non.sh : Nat) : Int))) (by kernel_rfl) (rn_ld (by kernel_rfl) (hBw1.cell rfl)) ?_)
  refine wpF_step (op_split (d := (some 7)) ((((x.non.sh : Nat) : Int) == ((0 : Nat) : Int))) (by kernel_rfl) (fun hc7 => ?_) (fun hc7 => ?_))
  · replace hc7 : x.non.sh = 0 := by have := of_eq_t hc7; omega
    refine wpF_run 3 [(10, (.pointer (some ⟨w.heap.size, 2, none⟩))), (9, (.pointer (some ⟨w.heap.size, 1, none⟩))), (8, (.bool true))] (by kernel_rfl) ?_
    refine wpF_step (op_v (d := (some 11)) (s := Instr.loadAt 22 (.pointer (some ⟨w.heap.size, 2, none⟩))) (v := (.int .u64 ((x.non.ct : Nat) : Int))) (by kernel_rfl) (rn_ld (by kernel_rfl) (hBw1.cell rfl)) ?_)
    refine wpF_step (op_split (d := (some 12)) ((((x.non.ct : Nat) : Int) == ((0 : Nat) : Int))) (by kernel_rfl) (fun hc12 => ?_) (fun hc12 => ?_))
    · replace hc12 : x.non.ct = 0 := by have := of_eq_t hc12; omega
      refine wpF_run 3 [(15, (.pointer (some ⟨w.heap.size, 3, none⟩))), (14, (.bool true)), (13, (.bool true))] (by kernel_rfl) ?_
      refine wpF_step (op_v (d := (some 16)) (s := Instr.loadAt 50 (.pointer (some ⟨w.heap.size, 3, none⟩))) (v := (.agg (digC x.tag).toArray)) (by kernel_rfl) (rn_lda (vs := digC x.tag) (by kernel_rfl) (by rw [digC_len]; kernel_rfl) (hBw1.at 3 (digC x.tag) (rec_tag _))) ?_)
      refine wpF_run 1 [(17, (.agg (digC Dig.zero).toArray))] (by kernel_rfl) ?_
      rcases Bool.eq_false_or_eq_true (x.tag.l == Dig.zero.l) with hq18 | hq18
      · refine wpF_step (op_v (d := (some 18)) (s := (do eqGuard .eql 50 (.tmp 16) (.tmp 17) (.agg (digC x.tag).toArray) (.agg (digC Dig.zero).toArray); binOp .eql 50 (.agg (digC x.tag).toArray) (.agg (digC Dig.zero).toArray) : Sem Value)) (v := (.bool true)) (by kernel_rfl) (run_eqlAgg (r := true) (T := 50) (by kernel_rfl) ((run_eq_dig (dd := 9998) (t := 50) (e := 5) x.tag Dig.zero (by kernel_rfl) (by kernel_rfl) (by kernel_rfl)).trans (congrArg (fun b => Result.ok b _) (show (x.tag.l == Dig.zero.l) = true from hq18)))) ?_)
        refine wpF_run 2 [(3, (.bool true)), (19, (.bool true))] (by kernel_rfl) ?_
        refine wpF_end (by kernel_rfl) ?_
        refine then_code ?_
        refine wpC_seq ?_
        refine wpC_seq ?_
        refine wpC_region ?_
        refine wpF_run 1 [(20, (.pointer (some ⟨w.heap.size, 0, none⟩)))] (by kernel_rfl) ?_
        refine wpF_step (op_v (d := (some 21)) (s := Instr.loadAt 5 (.pointer (some ⟨w.heap.size, 0, none⟩))) (v := (.int .u8 ((x.st : Nat) : Int))) (by kernel_rfl) (rn_ld (by kernel_rfl) (hBw1.cell rfl)) ?_)
        refine wpF_step (op_split (d := (some 22)) ((((x.st : Nat) : Int) == ((0 : Nat) : Int))) (by kernel_rfl) (fun hc22 => ?_) (fun hc22 => ?_))
        · replace hc22 : x.st = 0 := by have := of_eq_t hc22; omega
          refine wpF_run 13 [(35, (.bool true)), (34, undef), (33, undef), (32, undef), (31, (.bool true)), (30, (.bool true)), (29, undef), (28, undef), (27, undef), (26, (.bool true)), (25, (.bool true)), (24, (.bool true)), (23, (.bool true))] (by kernel_rfl) ?_
          refine wpF_end (by kernel_rfl) ?_
          refine then_code ?_
          refine wpC_true (by kernel_rfl) ?_
          refine wpC_seq ?_
          refine wpC_region ?_
          refine wpF_run 1 [(2, (.int .i64 ((0 : Nat) : Int)))] (by kernel_rfl) ?_
          refine wpF_end (by kernel_rfl) ?_
          refine then_code ?_
          refine wpC_ret ?_
          refine then_ret ?_
          refine body_ret1 (by kernel_rfl) (show resVal Try.prog 36 _ _ (.tmp 2) (.int .i64 ((0 : Nat) : Int)) by (show _ = _; kernel_rfl)) ?_
          exact ⟨congrArg (fun z : Nat => Value.int .i64 (z : Int)) (by unfold chkR; simp_all [Rec.eqb, Non.eqb, Rec.zero, Non.zero] <;> omega), hEw1⟩
        · replace hc22 : ¬ (x.st = 0) := by have := of_eq_f hc22; omega
          refine wpF_run 5 [(27, (.pointer (some ⟨w.heap.size, 0, none⟩))), (26, (.bool false)), (25, (.bool false)), (24, undef), (23, (.bool false))] (by kernel_rfl) ?_
          refine wpF_step (op_v (d := (some 28)) (s := Instr.loadAt 5 (.pointer (some ⟨w.heap.size, 0, none⟩))) (v := (.int .u8 ((x.st : Nat) : Int))) (by kernel_rfl) (rn_ld (by kernel_rfl) (hBw1.cell rfl)) ?_)
          refine wpF_step (op_split (d := (some 29)) ((((x.st : Nat) : Int) == ((1 : Nat) : Int))) (by kernel_rfl) (fun hc29 => ?_) (fun hc29 => ?_))
          · replace hc29 : x.st = 1 := by have := of_eq_t hc29; omega
            refine wpF_run 6 [(35, (.bool true)), (34, undef), (33, undef), (32, undef), (31, (.bool true)), (30, (.bool true))] (by kernel_rfl) ?_
            refine wpF_end (by kernel_rfl) ?_
            refine then_code ?_
            refine wpC_true (by kernel_rfl) ?_
            refine wpC_seq ?_
            refine wpC_region ?_
            refine wpF_run 1 [(2, (.int .i64 ((0 : Nat) : Int)))] (by kernel_rfl) ?_
            refine wpF_end (by kernel_rfl) ?_
            refine then_code ?_
            refine wpC_ret ?_
            refine then_ret ?_
            refine body_ret1 (by kernel_rfl) (show resVal Try.prog 36 _ _ (.tmp 2) (.int .i64 ((0 : Nat) : Int)) by (show _ = _; kernel_rfl)) ?_
            exact ⟨congrArg (fun z : Nat => Value.int .i64 (z : Int)) (by unfold chkR; simp_all [Rec.eqb, Non.eqb, Rec.zero, Non.zero] <;> omega), hEw1⟩
          · replace hc29 : ¬ (x.st = 1) := by have := of_eq_f hc29; omega
            refine wpF_run 3 [(32, (.pointer (some ⟨w.heap.size, 0, none⟩))), (31, (.bool false)), (30, (.bool false))] (by kernel_rfl) ?_
            refine wpF_step (op_v (d := (some 33)) (s := Instr.loadAt 5 (.pointer (some ⟨w.heap.size, 0, none⟩))) (v := (.int .u8 ((x.st : Nat) : Int))) (by kernel_rfl) (rn_ld (by kernel_rfl) (hBw1.cell rfl)) ?_)
            refine wpF_step (op_split (d := (some 34)) ((((x.st : Nat) : Int) == ((2 : Nat) : Int))) (by kernel_rfl) (fun hc34 => ?_) (fun hc34 => ?_))
            · replace hc34 : x.st = 2 := by have := of_eq_t hc34; omega
              refine wpF_run 1 [(35, (.bool true))] (by kernel_rfl) ?_
              refine wpF_end (by kernel_rfl) ?_
              refine then_code ?_
              refine wpC_true (by kernel_rfl) ?_
              refine wpC_seq ?_
              refine wpC_region ?_
              refine wpF_run 1 [(2, (.int .i64 ((0 : Nat) : Int)))] (by kernel_rfl) ?_
              refine wpF_end (by kernel_rfl) ?_
              refine then_code ?_
              refine wpC_ret ?_
              refine then_ret ?_
              refine body_ret1 (by kernel_rfl) (show resVal Try.prog 36 _ _ (.tmp 2) (.int .i64 ((0 : Nat) : Int)) by (show _ = _; kernel_rfl)) ?_
              exact ⟨congrArg (fun z : Nat => Value.int .i64 (z : Int)) (by unfold chkR; simp_all [Rec.eqb, Non.eqb, Rec.zero, Non.zero] <;> omega), hEw1⟩
            · replace hc34 : ¬ (x.st = 2) := by have := of_eq_f hc34; omega
              refine wpF_run 1 [(35, (.bool false))] (by kernel_rfl) ?_
              refine wpF_end (by kernel_rfl) ?_
              refine then_code ?_
              refine wpC_false (by kernel_rfl) ?_
              refine wpC_skip ?_
              refine then_code ?_
              refine wpC_seq ?_
              refine wpC_region ?_
              refine wpF_run 1 [(2, (.int .i64 ((1 : Nat) : Int)))] (by kernel_rfl) ?_
              refine wpF_end (by kernel_rfl) ?_
              refine then_code ?_
              refine wpC_ret ?_
              refine body_ret1 (by kernel_rfl) (show resVal Try.prog 36 _ _ (.tmp 2) (.int .i64 ((1 : Nat) : Int)) by (show _ = _; kernel_rfl)) ?_
              exact ⟨congrArg (fun z : Nat => Value.int .i64 (z : Int)) (by unfold chkR; simp_all [Rec.eqb, Non.eqb, Rec.zero, Non.zero] <;> omega), hEw1⟩
      · refine wpF_step (op_v (d := (some 18)) (s := (do eqGuard .eql 50 (.tmp 16) (.tmp 17) (.agg (digC x.tag).toArray) (.agg (digC Dig.zero).toArray); binOp .eql 50 (.agg (digC x.tag).toArray) (.agg (digC Dig.zero).toArray) : Sem Value)) (v := (.bool false)) (by kernel_rfl) (run_eqlAgg (r := false) (T := 50) (by kernel_rfl) ((run_eq_dig (dd := 9998) (t := 50) (e := 5) x.tag Dig.zero (by kernel_rfl) (by kernel_rfl) (by kernel_rfl)).trans (congrArg (fun b => Result.ok b _) (show (x.tag.l == Dig.zero.l) = false from hq18)))) ?_)
        refine wpF_run 2 [(3, (.bool false)), (19, (.bool false))] (by kernel_rfl) ?_
        refine wpF_end (by kernel_rfl) ?_
        refine then_code ?_
        refine wpC_seq ?_
        refine wpC_seq ?_
        refine wpC_region ?_
        refine wpF_run 1 [(20, (.pointer (some ⟨w.heap.size, 0, none⟩)))] (by kernel_rfl) ?_
        refine wpF_step (op_v (d := (some 21)) (s := Instr.loadAt 5 (.pointer (some ⟨w.heap.size, 0, none⟩))) (v := (.int .u8 ((x.st : Nat) : Int))) (by kernel_rfl) (rn_ld (by kernel_rfl) (hBw1.cell rfl)) ?_)
        refine wpF_step (op_split (d := (some 22)) ((((x.st : Nat) : Int) == ((0 : Nat) : Int))) (by kernel_rfl) (fun hc22 => ?_) (fun hc22 => ?_))
        · replace hc22 : x.st = 0 := by have := of_eq_t hc22; omega
          refine wpF_run 5 [(27, (.pointer (some ⟨w.heap.size, 0, none⟩))), (26, (.bool false)), (25, (.bool false)), (24, (.bool false)), (23, (.bool true))] (by kernel_rfl) ?_
          refine wpF_step (op_v (d := (some 28)) (s := Instr.loadAt 5 (.pointer (some ⟨w.heap.size, 0, none⟩))) (v := (.int .u8 ((x.st : Nat) : Int))) (by kernel_rfl) (rn_ld (by kernel_rfl) (hBw1.cell rfl)) ?_)
          refine wpF_step (op_split (d := (some 29)) ((((x.st : Nat) : Int) == ((1 : Nat) : Int))) (by kernel_rfl) (fun hc29 => ?_) (fun hc29 => ?_))
          · replace hc29 : x.st = 1 := by have := of_eq_t hc29; omega
            refine wpF_run 6 [(35, (.bool true)), (34, undef), (33, undef), (32, undef), (31, (.bool true)), (30, (.bool true))] (by kernel_rfl) ?_
            refine wpF_end (by kernel_rfl) ?_
            refine then_code ?_
            refine wpC_true (by kernel_rfl) ?_
            refine wpC_seq ?_
            refine wpC_region ?_
            refine wpF_run 1 [(2, (.int .i64 ((0 : Nat) : Int)))] (by kernel_rfl) ?_
            refine wpF_end (by kernel_rfl) ?_
            refine then_code ?_
            refine wpC_ret ?_
            refine then_ret ?_
            refine body_ret1 (by kernel_rfl) (show resVal Try.prog 36 _ _ (.tmp 2) (.int .i64 ((0 : Nat) : Int)) by (show _ = _; kernel_rfl)) ?_
            exact ⟨congrArg (fun z : Nat => Value.int .i64 (z : Int)) (by unfold chkR; simp_all [Rec.eqb, Non.eqb, Rec.zero, Non.zero] <;> omega), hEw1⟩
          · replace hc29 : ¬ (x.st = 1) := by have := of_eq_f hc29; omega
            refine wpF_run 3 [(32, (.pointer (some ⟨w.heap.size, 0, none⟩))), (31, (.bool false)), (30, (.bool false))] (by kernel_rfl) ?_
            refine wpF_step (op_v (d := (some 33)) (s := Instr.loadAt 5 (.pointer (some ⟨w.heap.size, 0, none⟩))) (v := (.int .u8 ((x.st : Nat) : Int))) (by kernel_rfl) (rn_ld (by kernel_rfl) (hBw1.cell rfl)) ?_)
            refine wpF_step (op_split (d := (some 34)) ((((x.st : Nat) : Int) == ((2 : Nat) : Int))) (by kernel_rfl) (fun hc34 => ?_) (fun hc34 => ?_))
            · replace hc34 : x.st = 2 := by have := of_eq_t hc34; omega
              refine wpF_run 1 [(35, (.bool true))] (by kernel_rfl) ?_
              refine wpF_end (by kernel_rfl) ?_
              refine then_code ?_
              refine wpC_true (by kernel_rfl) ?_
              refine wpC_seq ?_
              refine wpC_region ?_
              refine wpF_run 1 [(2, (.int .i64 ((0 : Nat) : Int)))] (by kernel_rfl) ?_
              refine wpF_end (by kernel_rfl) ?_
              refine then_code ?_
              refine wpC_ret ?_
              refine then_ret ?_
              refine body_ret1 (by kernel_rfl) (show resVal Try.prog 36 _ _ (.tmp 2) (.int .i64 ((0 : Nat) : Int)) by (show _ = _; kernel_rfl)) ?_
              exact ⟨congrArg (fun z : Nat => Value.int .i64 (z : Int)) (by unfold chkR; simp_all [Rec.eqb, Non.eqb, Rec.zero, Non.zero] <;> omega), hEw1⟩
            · replace hc34 : ¬ (x.st = 2) := by have := of_eq_f hc34; omega
              refine wpF_run 1 [(35, (.bool false))] (by kernel_rfl) ?_
              refine wpF_end (by kernel_rfl) ?_
              refine then_code ?_
              refine wpC_false (by kernel_rfl) ?_
              refine wpC_skip ?_
              refine then_code ?_
              refine wpC_seq ?_
              refine wpC_region ?_
              refine wpF_run 1 [(2, (.int .i64 ((1 : Nat) : Int)))] (by kernel_rfl) ?_
              refine wpF_end (by kernel_rfl) ?_
              refine then_code ?_
              refine wpC_ret ?_
              refine body_ret1 (by kernel_rfl) (show resVal Try.prog 36 _ _ (.tmp 2) (.int .i64 ((1 : Nat) : Int)) by (show _ = _; kernel_rfl)) ?_
              exact ⟨congrArg (fun z : Nat => Value.int .i64 (z : Int)) (by unfold chkR; simp_all [Rec.eqb, Non.eqb, Rec.zero, Non.zero] <;> omega), hEw1⟩
        · replace hc22 : ¬ (x.st = 0) := by have := of_eq_f hc22; omega
          refine wpF_run 5 [(27, (.pointer (some ⟨w.heap.size, 0, none⟩))), (26, (.bool false)), (25, (.bool false)), (24, undef), (23, (.bool false))] (by kernel_rfl) ?_
          refine wpF_step (op_v (d := (some 28)) (s := Instr.loadAt 5 (.pointer (some ⟨w.heap.size, 0, none⟩))) (v := (.int .u8 ((x.st : Nat) : Int))) (by kernel_rfl) (rn_ld (by kernel_rfl) (hBw1.cell rfl)) ?_)
          refine wpF_step (op_split (d := (some 29)) ((((x.st : Nat) : Int) == ((1 : Nat) : Int))) (by kernel_rfl) (fun hc29 => ?_) (fun hc29 => ?_))
          · replace hc29 : x.st = 1 := by have := of_eq_t hc29; omega
            refine wpF_run 6 [(35, (.bool true)), (34, undef), (33, undef), (32, undef), (31, (.bool true)), (30, (.bool true))] (by kernel_rfl) ?_
            refine wpF_end (by kernel_rfl) ?_
            refine then_code ?_
            refine wpC_true (by kernel_rfl) ?_
            refine wpC_seq ?_
            refine wpC_region ?_
            refine wpF_run 1 [(2, (.int .i64 ((0 : Nat) : Int)))] (by kernel_rfl) ?_
            refine wpF_end (by kernel_rfl) ?_
            refine then_code ?_
            refine wpC_ret ?_
            refine then_ret ?_
            refine body_ret1 (by kernel_rfl) (show resVal Try.prog 36 _ _ (.tmp 2) (.int .i64 ((0 : Nat) : Int)) by (show _ = _; kernel_rfl)) ?_
            exact ⟨congrArg (fun z : Nat => Value.int .i64 (z : Int)) (by unfold chkR; simp_all [Rec.eqb, Non.eqb, Rec.zero, Non.zero] <;> omega), hEw1⟩
          · replace hc29 : ¬ (x.st = 1) := by have := of_eq_f hc29; omega
            refine wpF_run 3 [(32, (.pointer (some ⟨w.heap.size, 0, none⟩))), (31, (.bool false)), (30, (.bool false))] (by kernel_rfl) ?_
            refine wpF_step (op_v (d := (some 33)) (s := Instr.loadAt 5 (.pointer (some ⟨w.heap.size, 0, none⟩))) (v := (.int .u8 ((x.st : Nat) : Int))) (by kernel_rfl) (rn_ld (by kernel_rfl) (hBw1.cell rfl)) ?_)
            refine wpF_step (op_split (d := (some 34)) ((((x.st : Nat) : Int) == ((2 : Nat) : Int))) (by kernel_rfl) (fun hc34 => ?_) (fun hc34 => ?_))
            · replace hc34 : x.st = 2 := by have := of_eq_t hc34; omega
              refine wpF_run 1 [(35, (.bool true))] (by kernel_rfl) ?_
              refine wpF_end (by kernel_rfl) ?_
              refine then_code ?_
              refine wpC_true (by kernel_rfl) ?_
              refine wpC_seq ?_
              refine wpC_region ?_
              refine wpF_run 1 [(2, (.int .i64 ((0 : Nat) : Int)))] (by kernel_rfl) ?_
              refine wpF_end (by kernel_rfl) ?_
              refine then_code ?_
              refine wpC_ret ?_
              refine then_ret ?_
              refine body_ret1 (by kernel_rfl) (show resVal Try.prog 36 _ _ (.tmp 2) (.int .i64 ((0 : Nat) : Int)) by (show _ = _; kernel_rfl)) ?_
              exact ⟨congrArg (fun z : Nat => Value.int .i64 (z : Int)) (by unfold chkR; simp_all [Rec.eqb, Non.eqb, Rec.zero, Non.zero] <;> omega), hEw1⟩
            · replace hc34 : ¬ (x.st = 2) := by have := of_eq_f hc34; omega
              refine wpF_run 1 [(35, (.bool false))] (by kernel_rfl) ?_
              refine wpF_end (by kernel_rfl) ?_
              refine then_code ?_
              refine wpC_false (by kernel_rfl) ?_
              refine wpC_skip ?_
              refine then_code ?_
              refine wpC_seq ?_
              refine wpC_region ?_
              refine wpF_run 1 [(2, (.int .i64 ((1 : Nat) : Int)))] (by kernel_rfl) ?_
              refine wpF_end (by kernel_rfl) ?_
              refine then_code ?_
              refine wpC_ret ?_
              refine body_ret1 (by kernel_rfl) (show resVal Try.prog 36 _ _ (.tmp 2) (.int .i64 ((1 : Nat) : Int)) by (show _ = _; kernel_rfl)) ?_
              exact ⟨congrArg (fun z : Nat => Value.int .i64 (z : Int)) (by unfold chkR; simp_all [Rec.eqb, Non.eqb, Rec.zero, Non.zero] <;> omega), hEw1⟩
    · replace hc12 : ¬ (x.non.ct = 0) := by have := of_eq_f hc12; omega
      refine wpF_run 8 [(3, (.bool false)), (19, (.bool false)), (18, undef), (17, undef), (16, undef), (15, undef), (14, (.bool false)), (13, (.bool false))] (by kernel_rfl) ?_
      refine wpF_end (by kernel_rfl) ?_
      refine then_code ?_
      refine wpC_seq ?_
      refine wpC_seq ?_
      refine wpC_region ?_
      refine wpF_run 1 [(20, (.pointer (some ⟨w.heap.size, 0, none⟩)))] (by kernel_rfl) ?_
      refine wpF_step (op_v (d := (some 21)) (s := Instr.loadAt 5 (.pointer (some ⟨w.heap.size, 0, none⟩))) (v := (.int .u8 ((x.st : Nat) : Int))) (by kernel_rfl) (rn_ld (by kernel_rfl) (hBw1.cell rfl)) ?_)
      refine wpF_step (op_split (d := (some 22)) ((((x.st : Nat) : Int) == ((0 : Nat) : Int))) (by kernel_rfl) (fun hc22 => ?_) (fun hc22 => ?_))
      · replace hc22 : x.st = 0 := by have := of_eq_t hc22; omega
        refine wpF_run 5 [(27, (.pointer (some ⟨w.heap.size, 0, none⟩))), (26, (.bool false)), (25, (.bool false)), (24, (.bool false)), (23, (.bool true))] (by kernel_rfl) ?_
        refine wpF_step (op_v (d := (some 28)) (s := Instr.loadAt 5 (.pointer (some ⟨w.heap.size, 0, none⟩))) (v := (.int .u8 ((x.st : Nat) : Int))) (by kernel_rfl) (rn_ld (by kernel_rfl) (hBw1.cell rfl)) ?_)
        refine wpF_step (op_split (d := (some 29)) ((((x.st : Nat) : Int) == ((1 : Nat) : Int))) (by kernel_rfl) (fun hc29 => ?_) (fun hc29 => ?_))
        · replace hc29 : x.st = 1 := by have := of_eq_t hc29; omega
          refine wpF_run 6 [(35, (.bool true)), (34, undef), (33, undef), (32, undef), (31, (.bool true)), (30, (.bool true))] (by kernel_rfl) ?_
          refine wpF_end (by kernel_rfl) ?_
          refine then_code ?_
          refine wpC_true (by kernel_rfl) ?_
          refine wpC_seq ?_
          refine wpC_region ?_
          refine wpF_run 1 [(2, (.int .i64 ((0 : Nat) : Int)))] (by kernel_rfl) ?_
          refine wpF_end (by kernel_rfl) ?_
          refine then_code ?_
          refine wpC_ret ?_
          refine then_ret ?_
          refine body_ret1 (by kernel_rfl) (show resVal Try.prog 36 _ _ (.tmp 2) (.int .i64 ((0 : Nat) : Int)) by (show _ = _; kernel_rfl)) ?_
          exact ⟨congrArg (fun z : Nat => Value.int .i64 (z : Int)) (by unfold chkR; simp_all [Rec.eqb, Non.eqb, Rec.zero, Non.zero] <;> omega), hEw1⟩
        · replace hc29 : ¬ (x.st = 1) := by have := of_eq_f hc29; omega
          refine wpF_run 3 [(32, (.pointer (some ⟨w.heap.size, 0, none⟩))), (31, (.bool false)), (30, (.bool false))] (by kernel_rfl) ?_
          refine wpF_step (op_v (d := (some 33)) (s := Instr.loadAt 5 (.pointer (some ⟨w.heap.size, 0, none⟩))) (v := (.int .u8 ((x.st : Nat) : Int))) (by kernel_rfl) (rn_ld (by kernel_rfl) (hBw1.cell rfl)) ?_)
          refine wpF_step (op_split (d := (some 34)) ((((x.st : Nat) : Int) == ((2 : Nat) : Int))) (by kernel_rfl) (fun hc34 => ?_) (fun hc34 => ?_))
          · replace hc34 : x.st = 2 := by have := of_eq_t hc34; omega
            refine wpF_run 1 [(35, (.bool true))] (by kernel_rfl) ?_
            refine wpF_end (by kernel_rfl) ?_
            refine then_code ?_
            refine wpC_true (by kernel_rfl) ?_
            refine wpC_seq ?_
            refine wpC_region ?_
            refine wpF_run 1 [(2, (.int .i64 ((0 : Nat) : Int)))] (by kernel_rfl) ?_
            refine wpF_end (by kernel_rfl) ?_
            refine then_code ?_
            refine wpC_ret ?_
            refine then_ret ?_
            refine body_ret1 (by kernel_rfl) (show resVal Try.prog 36 _ _ (.tmp 2) (.int .i64 ((0 : Nat) : Int)) by (show _ = _; kernel_rfl)) ?_
            exact ⟨congrArg (fun z : Nat => Value.int .i64 (z : Int)) (by unfold chkR; simp_all [Rec.eqb, Non.eqb, Rec.zero, Non.zero] <;> omega), hEw1⟩
          · replace hc34 : ¬ (x.st = 2) := by have := of_eq_f hc34; omega
            refine wpF_run 1 [(35, (.bool false))] (by kernel_rfl) ?_
            refine wpF_end (by kernel_rfl) ?_
            refine then_code ?_
            refine wpC_false (by kernel_rfl) ?_
            refine wpC_skip ?_
            refine then_code ?_
            refine wpC_seq ?_
            refine wpC_region ?_
            refine wpF_run 1 [(2, (.int .i64 ((1 : Nat) : Int)))] (by kernel_rfl) ?_
            refine wpF_end (by kernel_rfl) ?_
            refine then_code ?_
            refine wpC_ret ?_
            refine body_ret1 (by kernel_rfl) (show resVal Try.prog 36 _ _ (.tmp 2) (.int .i64 ((1 : Nat) : Int)) by (show _ = _; kernel_rfl)) ?_
            exact ⟨congrArg (fun z : Nat => Value.int .i64 (z : Int)) (by unfold chkR; simp_all [Rec.eqb, Non.eqb, Rec.zero, Non.zero] <;> omega), hEw1⟩
      · replace hc22 : ¬ (x.st = 0) := by have := of_eq_f hc22; omega
        refine wpF_run 5 [(27, (.pointer (some ⟨w.heap.size, 0, none⟩))), (26, (.bool false)), (25, (.bool false)), (24, undef), (23, (.bool false))] (by kernel_rfl) ?_
        refine wpF_step (op_v (d := (some 28)) (s := Instr.loadAt 5 (.pointer (some ⟨w.heap.size, 0, none⟩))) (v := (.int .u8 ((x.st : Nat) : Int))) (by kernel_rfl) (rn_ld (by kernel_rfl) (hBw1.cell rfl)) ?_)
        refine wpF_step (op_split (d := (some 29)) ((((x.st : Nat) : Int) == ((1 : Nat) : Int))) (by kernel_rfl) (fun hc29 => ?_) (fun hc29 => ?_))
        · replace hc29 : x.st = 1 := by have := of_eq_t hc29; omega
          refine wpF_run 6 [(35, (.bool true)), (34, undef), (33, undef), (32, undef), (31, (.bool true)), (30, (.bool true))] (by kernel_rfl) ?_
          refine wpF_end (by kernel_rfl) ?_
          refine then_code ?_
          refine wpC_true (by kernel_rfl) ?_
          refine wpC_seq ?_
          refine wpC_region ?_
          refine wpF_run 1 [(2, (.int .i64 ((0 : Nat) : Int)))] (by kernel_rfl) ?_
          refine wpF_end (by kernel_rfl) ?_
          refine then_code ?_
          refine wpC_ret ?_
          refine then_ret ?_
          refine body_ret1 (by kernel_rfl) (show resVal Try.prog 36 _ _ (.tmp 2) (.int .i64 ((0 : Nat) : Int)) by (show _ = _; kernel_rfl)) ?_
          exact ⟨congrArg (fun z : Nat => Value.int .i64 (z : Int)) (by unfold chkR; simp_all [Rec.eqb, Non.eqb, Rec.zero, Non.zero] <;> omega), hEw1⟩
        · replace hc29 : ¬ (x.st = 1) := by have := of_eq_f hc29; omega
          refine wpF_run 3 [(32, (.pointer (some ⟨w.heap.size, 0, none⟩))), (31, (.bool false)), (30, (.bool false))] (by kernel_rfl) ?_
          refine wpF_step (op_v (d := (some 33)) (s := Instr.loadAt 5 (.pointer (some ⟨w.heap.size, 0, none⟩))) (v := (.int .u8 ((x.st : Nat) : Int))) (by kernel_rfl) (rn_ld (by kernel_rfl) (hBw1.cell rfl)) ?_)
          refine wpF_step (op_split (d := (some 34)) ((((x.st : Nat) : Int) == ((2 : Nat) : Int))) (by kernel_rfl) (fun hc34 => ?_) (fun hc34 => ?_))
          · replace hc34 : x.st = 2 := by have := of_eq_t hc34; omega
            refine wpF_run 1 [(35, (.bool true))] (by kernel_rfl) ?_
            refine wpF_end (by kernel_rfl) ?_
            refine then_code ?_
            refine wpC_true (by kernel_rfl) ?_
            refine wpC_seq ?_
            refine wpC_region ?_
            refine wpF_run 1 [(2, (.int .i64 ((0 : Nat) : Int)))] (by kernel_rfl) ?_
            refine wpF_end (by kernel_rfl) ?_
            refine then_code ?_
            refine wpC_ret ?_
            refine then_ret ?_
            refine body_ret1 (by kernel_rfl) (show resVal Try.prog 36 _ _ (.tmp 2) (.int .i64 ((0 : Nat) : Int)) by (show _ = _; kernel_rfl)) ?_
            exact ⟨congrArg (fun z : Nat => Value.int .i64 (z : Int)) (by unfold chkR; simp_all [Rec.eqb, Non.eqb, Rec.zero, Non.zero] <;> omega), hEw1⟩
          · replace hc34 : ¬ (x.st = 2) := by have := of_eq_f hc34; omega
            refine wpF_run 1 [(35, (.bool false))] (by kernel_rfl) ?_
            refine wpF_end (by kernel_rfl) ?_
            refine then_code ?_
            refine wpC_false (by kernel_rfl) ?_
            refine wpC_skip ?_
            refine then_code ?_
            refine wpC_seq ?_
            refine wpC_region ?_
            refine wpF_run 1 [(2, (.int .i64 ((1 : Nat) : Int)))] (by kernel_rfl) ?_
            refine wpF_end (by kernel_rfl) ?_
            refine then_code ?_
            refine wpC_ret ?_
            refine body_ret1 (by kernel_rfl) (show resVal Try.prog 36 _ _ (.tmp 2) (.int .i64 ((1 : Nat) : Int)) by (show _ = _; kernel_rfl)) ?_
            exact ⟨congrArg (fun z : Nat => Value.int .i64 (z : Int)) (by unfold chkR; simp_all [Rec.eqb, Non.eqb, Rec.zero, Non.zero] <;> omega), hEw1⟩
  · replace hc7 : ¬ (x.non.sh = 0) := by have := of_eq_f hc7; omega
    refine wpF_run 13 [(3, (.bool false)), (19, (.bool false)), (18, undef), (17, undef), (16, undef), (15, undef), (14, (.bool false)), (13, (.bool false)), (12, undef), (11, undef), (10, undef), (9, undef), (8, (.bool false))] (by kernel_rfl) ?_
    refine wpF_end (by kernel_rfl) ?_
    refine then_code ?_
    refine wpC_seq ?_
    refine wpC_seq ?_
    refine wpC_region ?_
    refine wpF_run 1 [(20, (.pointer (some ⟨w.heap.size, 0, none⟩)))] (by kernel_rfl) ?_
    refine wpF_step (op_v (d := (some 21)) (s := Instr.loadAt 5 (.pointer (some ⟨w.heap.size, 0, none⟩))) (v := (.int .u8 ((x.st : Nat) : Int))) (by kernel_rfl) (rn_ld (by kernel_rfl) (hBw1.cell rfl)) ?_)
    refine wpF_step (op_split (d := (some 22)) ((((x.st : Nat) : Int) == ((0 : Nat) : Int))) (by kernel_rfl) (fun hc22 => ?_) (fun hc22 => ?_))
    · replace hc22 : x.st = 0 := by have := of_eq_t hc22; omega
      refine wpF_run 5 [(27, (.pointer (some ⟨w.heap.size, 0, none⟩))), (26, (.bool false)), (25, (.bool false)), (24, (.bool false)), (23, (.bool true))] (by kernel_rfl) ?_
      refine wpF_step (op_v (d := (some 28)) (s := Instr.loadAt 5 (.pointer (some ⟨w.heap.size, 0, none⟩))) (v := (.int .u8 ((x.st : Nat) : Int))) (by kernel_rfl) (rn_ld (by kernel_rfl) (hBw1.cell rfl)) ?_)
      refine wpF_step (op_split (d := (some 29)) ((((x.st : Nat) : Int) == ((1 : Nat) : Int))) (by kernel_rfl) (fun hc29 => ?_) (fun hc29 => ?_))
      · replace hc29 : x.st = 1 := by have := of_eq_t hc29; omega
        refine wpF_run 6 [(35, (.bool true)), (34, undef), (33, undef), (32, undef), (31, (.bool true)), (30, (.bool true))] (by kernel_rfl) ?_
        refine wpF_end (by kernel_rfl) ?_
        refine then_code ?_
        refine wpC_true (by kernel_rfl) ?_
        refine wpC_seq ?_
        refine wpC_region ?_
        refine wpF_run 1 [(2, (.int .i64 ((0 : Nat) : Int)))] (by kernel_rfl) ?_
        refine wpF_end (by kernel_rfl) ?_
        refine then_code ?_
        refine wpC_ret ?_
        refine then_ret ?_
        refine body_ret1 (by kernel_rfl) (show resVal Try.prog 36 _ _ (.tmp 2) (.int .i64 ((0 : Nat) : Int)) by (show _ = _; kernel_rfl)) ?_
        exact ⟨congrArg (fun z : Nat => Value.int .i64 (z : Int)) (by unfold chkR; simp_all [Rec.eqb, Non.eqb, Rec.zero, Non.zero] <;> omega), hEw1⟩
      · replace hc29 : ¬ (x.st = 1) := by have := of_eq_f hc29; omega
        refine wpF_run 3 [(32, (.pointer (some ⟨w.heap.size, 0, none⟩))), (31, (.bool false)), (30, (.bool false))] (by kernel_rfl) ?_
        refine wpF_step (op_v (d := (some 33)) (s := Instr.loadAt 5 (.pointer (some ⟨w.heap.size, 0, none⟩))) (v := (.int .u8 ((x.st : Nat) : Int))) (by kernel_rfl) (rn_ld (by kernel_rfl) (hBw1.cell rfl)) ?_)
        refine wpF_step (op_split (d := (some 34)) ((((x.st : Nat) : Int) == ((2 : Nat) : Int))) (by kernel_rfl) (fun hc34 => ?_) (fun hc34 => ?_))
        · replace hc34 : x.st = 2 := by have := of_eq_t hc34; omega
          refine wpF_run 1 [(35, (.bool true))] (by kernel_rfl) ?_
          refine wpF_end (by kernel_rfl) ?_
          refine then_code ?_
          refine wpC_true (by kernel_rfl) ?_
          refine wpC_seq ?_
          refine wpC_region ?_
          refine wpF_run 1 [(2, (.int .i64 ((0 : Nat) : Int)))] (by kernel_rfl) ?_
          refine wpF_end (by kernel_rfl) ?_
          refine then_code ?_
          refine wpC_ret ?_
          refine then_ret ?_
          refine body_ret1 (by kernel_rfl) (show resVal Try.prog 36 _ _ (.tmp 2) (.int .i64 ((0 : Nat) : Int)) by (show _ = _; kernel_rfl)) ?_
          exact ⟨congrArg (fun z : Nat => Value.int .i64 (z : Int)) (by unfold chkR; simp_all [Rec.eqb, Non.eqb, Rec.zero, Non.zero] <;> omega), hEw1⟩
        · replace hc34 : ¬ (x.st = 2) := by have := of_eq_f hc34; omega
          refine wpF_run 1 [(35, (.bool false))] (by kernel_rfl) ?_
          refine wpF_end (by kernel_rfl) ?_
          refine then_code ?_
          refine wpC_false (by kernel_rfl) ?_
          refine wpC_skip ?_
          refine then_code ?_
          refine wpC_seq ?_
          refine wpC_region ?_
          refine wpF_run 1 [(2, (.int .i64 ((1 : Nat) : Int)))] (by kernel_rfl) ?_
          refine wpF_end (by kernel_rfl) ?_
          refine then_code ?_
          refine wpC_ret ?_
          refine body_ret1 (by kernel_rfl) (show resVal Try.prog 36 _ _ (.tmp 2) (.int .i64 ((1 : Nat) : Int)) by (show _ = _; kernel_rfl)) ?_
          exact ⟨congrArg (fun z : Nat => Value.int .i64 (z : Int)) (by unfold chkR; simp_all [Rec.eqb, Non.eqb, Rec.zero, Non.zero] <;> omega), hEw1⟩
    · replace hc22 : ¬ (x.st = 0) := by have := of_eq_f hc22; omega
      refine wpF_run 5 [(27, (.pointer (some ⟨w.heap.size, 0, none⟩))), (26, (.bool false)), (25, (.bool false)), (24, undef), (23, (.bool false))] (by kernel_rfl) ?_
      refine wpF_step (op_v (d := (some 28)) (s := Instr.loadAt 5 (.pointer (some ⟨w.heap.size, 0, none⟩))) (v := (.int .u8 ((x.st : Nat) : Int))) (by kernel_rfl) (rn_ld (by kernel_rfl) (hBw1.cell rfl)) ?_)
      refine wpF_step (op_split (d := (some 29)) ((((x.st : Nat) : Int) == ((1 : Nat) : Int))) (by kernel_rfl) (fun hc29 => ?_) (fun hc29 => ?_))
      · replace hc29 : x.st = 1 := by have := of_eq_t hc29; omega
        refine wpF_run 6 [(35, (.bool true)), (34, undef), (33, undef), (32, undef), (31, (.bool true)), (30, (.bool true))] (by kernel_rfl) ?_
        refine wpF_end (by kernel_rfl) ?_
        refine then_code ?_
        refine wpC_true (by kernel_rfl) ?_
        refine wpC_seq ?_
        refine wpC_region ?_
        refine wpF_run 1 [(2, (.int .i64 ((0 : Nat) : Int)))] (by kernel_rfl) ?_
        refine wpF_end (by kernel_rfl) ?_
        refine then_code ?_
        refine wpC_ret ?_
        refine then_ret ?_
        refine body_ret1 (by kernel_rfl) (show resVal Try.prog 36 _ _ (.tmp 2) (.int .i64 ((0 : Nat) : Int)) by (show _ = _; kernel_rfl)) ?_
        exact ⟨congrArg (fun z : Nat => Value.int .i64 (z : Int)) (by unfold chkR; simp_all [Rec.eqb, Non.eqb, Rec.zero, Non.zero] <;> omega), hEw1⟩
      · replace hc29 : ¬ (x.st = 1) := by have := of_eq_f hc29; omega
        refine wpF_run 3 [(32, (.pointer (some ⟨w.heap.size, 0, none⟩))), (31, (.bool false)), (30, (.bool false))] (by kernel_rfl) ?_
        refine wpF_step (op_v (d := (some 33)) (s := Instr.loadAt 5 (.pointer (some ⟨w.heap.size, 0, none⟩))) (v := (.int .u8 ((x.st : Nat) : Int))) (by kernel_rfl) (rn_ld (by kernel_rfl) (hBw1.cell rfl)) ?_)
        refine wpF_step (op_split (d := (some 34)) ((((x.st : Nat) : Int) == ((2 : Nat) : Int))) (by kernel_rfl) (fun hc34 => ?_) (fun hc34 => ?_))
        · replace hc34 : x.st = 2 := by have := of_eq_t hc34; omega
          refine wpF_run 1 [(35, (.bool true))] (by kernel_rfl) ?_
          refine wpF_end (by kernel_rfl) ?_
          refine then_code ?_
          refine wpC_true (by kernel_rfl) ?_
          refine wpC_seq ?_
          refine wpC_region ?_
          refine wpF_run 1 [(2, (.int .i64 ((0 : Nat) : Int)))] (by kernel_rfl) ?_
          refine wpF_end (by kernel_rfl) ?_
          refine then_code ?_
          refine wpC_ret ?_
          refine then_ret ?_
          refine body_ret1 (by kernel_rfl) (show resVal Try.prog 36 _ _ (.tmp 2) (.int .i64 ((0 : Nat) : Int)) by (show _ = _; kernel_rfl)) ?_
          exact ⟨congrArg (fun z : Nat => Value.int .i64 (z : Int)) (by unfold chkR; simp_all [Rec.eqb, Non.eqb, Rec.zero, Non.zero] <;> omega), hEw1⟩
        · replace hc34 : ¬ (x.st = 2) := by have := of_eq_f hc34; omega
          refine wpF_run 1 [(35, (.bool false))] (by kernel_rfl) ?_
          refine wpF_end (by kernel_rfl) ?_
          refine then_code ?_
          refine wpC_false (by kernel_rfl) ?_
          refine wpC_skip ?_
          refine then_code ?_
          refine wpC_seq ?_
          refine wpC_region ?_
          refine wpF_run 1 [(2, (.int .i64 ((1 : Nat) : Int)))] (by kernel_rfl) ?_
          refine wpF_end (by kernel_rfl) ?_
          refine then_code ?_
          refine wpC_ret ?_
          refine body_ret1 (by kernel_rfl) (show resVal Try.prog 36 _ _ (.tmp 2) (.int .i64 ((1 : Nat) : Int)) by (show _ = _; kernel_rfl)) ?_
          exact ⟨congrArg (fun z : Nat => Value.int .i64 (z : Int)) (by unfold chkR; simp_all [Rec.eqb, Non.eqb, Rec.zero, Non.zero] <;> omega), hEw1⟩

theorem c_rCheckEntry (x : Ent)  (w : World)  :
    Calls Try.prog 36 #[(.agg (entC x).toArray)] w (Ret fun r w' => r = (.int .i64 ((chkE x : Nat) : Int)) ∧ Ext w w') := by
  refine calls_of (n := 22) (σ := [(0, (.agg (entC x).toArray))]) Try.func36 rfl (by kernel_rfl) ?_
  refine wpC_seq ?_
  refine wpC_region ?_
  refine wpF_step (op_new (d := (some 1)) (s := Instr.box 61 (.agg (entC x).toArray)) (.pointer (some ⟨w.heap.size, 0, none⟩)) (entC x) 61 (by kernel_rfl) (by kernel_rfl) ?_)
  intro w1 hBw1 hEw1
  have hzw1 := hEw1.size; have hlw1 := hBw1.lt
  refine wpF_run 1 [(2, (.int .i64 ((0 : Nat) : Int)))] (by kernel_rfl) ?_
  refine wpF_end (by kernel_rfl) ?_
  refine then_code ?_
  refine wpC_seq ?_
  refine wpC_seq ?_
  refine wpC_region ?_
  refine wpF_run 1 [(3, (.pointer (some ⟨w.heap.size, 0, none⟩)))] (by kernel_rfl) ?_
  refine wpF_step (op_v (d := (some 4)) (s := Instr.loadAt 5 (.pointer (some ⟨w.heap.size, 0, none⟩))) (v := (.int .u8 ((x.st : Nat) : Int))) (by kernel_rfl) (rn_ld (by kernel_rfl) (hBw1.cell rfl)) ?_)
  refine wpF_step (op_split (d := (some 5)) ((((x.st : Nat) : Int) == ((0 : Nat) : Int))) (by kernel_rfl) (fun hc5 => ?_) (fun hc5 => ?_))
  · replace hc5 : x.st = 0 := by have := of_eq_t hc5; omega
    refine wpF_run 2 [(7, (.pointer (some ⟨w.heap.size, 1, none⟩))), (6, (.bool true))] (by kernel_rfl) ?_
    refine wpF_step (op_v (d := (some 8)) (s := Instr.loadAt 50 (.pointer (some ⟨w.heap.size, 1, none⟩))) (v := (.agg (digC x.dg).toArray)) (by kernel_rfl) (rn_lda (vs := digC x.dg) (by kernel_rfl) (by rw [digC_len]; kernel_rfl) (hBw1.at 1 (digC x.dg) (ent_dg _))) ?_)
    refine wpF_run 1 [(9, (.agg (digC Dig.zero).toArray))] (by kernel_rfl) ?_
    rcases Bool.eq_false_or_eq_true (x.dg.l == Dig.zero.l) with hq10 | hq10
    · refine wpF_step (op_v (d := (some 10)) (s := (do eqGuard .eql 50 (.tmp 8) (.tmp 9) (.agg (digC x.dg).toArray) (.agg (digC Dig.zero).toArray); binOp .eql 50 (.agg (digC x.dg).toArray) (.agg (digC Dig.zero).toArray) : Sem Value)) (v := (.bool true)) (by kernel_rfl) (run_eqlAgg (r := true) (T := 50) (by kernel_rfl) ((run_eq_dig (dd := 9998) (t := 50) (e := 5) x.dg Dig.zero (by kernel_rfl) (by kernel_rfl) (by kernel_rfl)).trans (congrArg (fun b => Result.ok b _) (show (x.dg.l == Dig.zero.l) = true from hq10)))) ?_)
      refine wpF_run 11 [(21, (.bool true)), (20, undef), (19, undef), (18, undef), (17, (.bool true)), (16, (.bool true)), (15, undef), (14, undef), (13, undef), (12, (.bool true)), (11, (.bool true))] (by kernel_rfl) ?_
      refine wpF_end (by kernel_rfl) ?_
      refine then_code ?_
      refine wpC_true (by kernel_rfl) ?_
      refine wpC_seq ?_
      refine wpC_region ?_
      refine wpF_run 1 [(2, (.int .i64 ((0 : Nat) : Int)))] (by kernel_rfl) ?_
      refine wpF_end (by kernel_rfl) ?_
      refine then_code ?_
      refine wpC_ret ?_
      refine then_ret ?_
      refine body_ret1 (by kernel_rfl) (show resVal Try.prog 22 _ _ (.tmp 2) (.int .i64 ((0 : Nat) : Int)) by (show _ = _; kernel_rfl)) ?_
      exact ⟨congrArg (fun z : Nat => Value.int .i64 (z : Int)) (by unfold chkE; simp_all [Ent.eqb, Ent.zero] <;> omega), hEw1⟩
    · refine wpF_step (op_v (d := (some 10)) (s := (do eqGuard .eql 50 (.tmp 8) (.tmp 9) (.agg (digC x.dg).toArray) (.agg (digC Dig.zero).toArray); binOp .eql 50 (.agg (digC x.dg).toArray) (.agg (digC Dig.zero).toArray) : Sem Value)) (v := (.bool false)) (by kernel_rfl) (run_eqlAgg (r := false) (T := 50) (by kernel_rfl) ((run_eq_dig (dd := 9998) (t := 50) (e := 5) x.dg Dig.zero (by kernel_rfl) (by kernel_rfl) (by kernel_rfl)).trans (congrArg (fun b => Result.ok b _) (show (x.dg.l == Dig.zero.l) = false from hq10)))) ?_)
      refine wpF_run 3 [(13, (.pointer (some ⟨w.heap.size, 0, none⟩))), (12, (.bool false)), (11, (.bool false))] (by kernel_rfl) ?_
      refine wpF_step (op_v (d := (some 14)) (s := Instr.loadAt 5 (.pointer (some ⟨w.heap.size, 0, none⟩))) (v := (.int .u8 ((x.st : Nat) : Int))) (by kernel_rfl) (rn_ld (by kernel_rfl) (hBw1.cell rfl)) ?_)
      refine wpF_step (op_split (d := (some 15)) ((((x.st : Nat) : Int) == ((1 : Nat) : Int))) (by kernel_rfl) (fun hc15 => ?_) (fun hc15 => ?_))
      · replace hc15 : x.st = 1 := by have := of_eq_t hc15; omega
        refine wpF_run 6 [(21, (.bool true)), (20, undef), (19, undef), (18, undef), (17, (.bool true)), (16, (.bool true))] (by kernel_rfl) ?_
        refine wpF_end (by kernel_rfl) ?_
        refine then_code ?_
        refine wpC_true (by kernel_rfl) ?_
        refine wpC_seq ?_
        refine wpC_region ?_
        refine wpF_run 1 [(2, (.int .i64 ((0 : Nat) : Int)))] (by kernel_rfl) ?_
        refine wpF_end (by kernel_rfl) ?_
        refine then_code ?_
        refine wpC_ret ?_
        refine then_ret ?_
        refine body_ret1 (by kernel_rfl) (show resVal Try.prog 22 _ _ (.tmp 2) (.int .i64 ((0 : Nat) : Int)) by (show _ = _; kernel_rfl)) ?_
        exact ⟨congrArg (fun z : Nat => Value.int .i64 (z : Int)) (by unfold chkE; simp_all [Ent.eqb, Ent.zero] <;> omega), hEw1⟩
      · replace hc15 : ¬ (x.st = 1) := by have := of_eq_f hc15; omega
        refine wpF_run 3 [(18, (.pointer (some ⟨w.heap.size, 0, none⟩))), (17, (.bool false)), (16, (.bool false))] (by kernel_rfl) ?_
        refine wpF_step (op_v (d := (some 19)) (s := Instr.loadAt 5 (.pointer (some ⟨w.heap.size, 0, none⟩))) (v := (.int .u8 ((x.st : Nat) : Int))) (by kernel_rfl) (rn_ld (by kernel_rfl) (hBw1.cell rfl)) ?_)
        refine wpF_step (op_split (d := (some 20)) ((((x.st : Nat) : Int) == ((2 : Nat) : Int))) (by kernel_rfl) (fun hc20 => ?_) (fun hc20 => ?_))
        · replace hc20 : x.st = 2 := by have := of_eq_t hc20; omega
          refine wpF_run 1 [(21, (.bool true))] (by kernel_rfl) ?_
          refine wpF_end (by kernel_rfl) ?_
          refine then_code ?_
          refine wpC_true (by kernel_rfl) ?_
          refine wpC_seq ?_
          refine wpC_region ?_
          refine wpF_run 1 [(2, (.int .i64 ((0 : Nat) : Int)))] (by kernel_rfl) ?_
          refine wpF_end (by kernel_rfl) ?_
          refine then_code ?_
          refine wpC_ret ?_
          refine then_ret ?_
          refine body_ret1 (by kernel_rfl) (show resVal Try.prog 22 _ _ (.tmp 2) (.int .i64 ((0 : Nat) : Int)) by (show _ = _; kernel_rfl)) ?_
          exact ⟨congrArg (fun z : Nat => Value.int .i64 (z : Int)) (by unfold chkE; simp_all [Ent.eqb, Ent.zero] <;> omega), hEw1⟩
        · replace hc20 : ¬ (x.st = 2) := by have := of_eq_f hc20; omega
          refine wpF_run 1 [(21, (.bool false))] (by kernel_rfl) ?_
          refine wpF_end (by kernel_rfl) ?_
          refine then_code ?_
          refine wpC_false (by kernel_rfl) ?_
          refine wpC_skip ?_
          refine then_code ?_
          refine wpC_seq ?_
          refine wpC_region ?_
          refine wpF_run 1 [(2, (.int .i64 ((1 : Nat) : Int)))] (by kernel_rfl) ?_
          refine wpF_end (by kernel_rfl) ?_
          refine then_code ?_
          refine wpC_ret ?_
          refine body_ret1 (by kernel_rfl) (show resVal Try.prog 22 _ _ (.tmp 2) (.int .i64 ((1 : Nat) : Int)) by (show _ = _; kernel_rfl)) ?_
          exact ⟨congrArg (fun z : Nat => Value.int .i64 (z : Int)) (by unfold chkE; simp_all [Ent.eqb, Ent.zero] <;> omega), hEw1⟩
  · replace hc5 : ¬ (x.st = 0) := by have := of_eq_f hc5; omega
    refine wpF_run 8 [(13, (.pointer (some ⟨w.heap.size, 0, none⟩))), (12, (.bool false)), (11, (.bool false)), (10, undef), (9, undef), (8, undef), (7, undef), (6, (.bool false))] (by kernel_rfl) ?_
    refine wpF_step (op_v (d := (some 14)) (s := Instr.loadAt 5 (.pointer (some ⟨w.heap.size, 0, none⟩))) (v := (.int .u8 ((x.st : Nat) : Int))) (by kernel_rfl) (rn_ld (by kernel_rfl) (hBw1.cell rfl)) ?_)
    refine wpF_step (op_split (d := (some 15)) ((((x.st : Nat) : Int) == ((1 : Nat) : Int))) (by kernel_rfl) (fun hc15 => ?_) (fun hc15 => ?_))
    · replace hc15 : x.st = 1 := by have := of_eq_t hc15; omega
      refine wpF_run 6 [(21, (.bool true)), (20, undef), (19, undef), (18, undef), (17, (.bool true)), (16, (.bool true))] (by kernel_rfl) ?_
      refine wpF_end (by kernel_rfl) ?_
      refine then_code ?_
      refine wpC_true (by kernel_rfl) ?_
      refine wpC_seq ?_
      refine wpC_region ?_
      refine wpF_run 1 [(2, (.int .i64 ((0 : Nat) : Int)))] (by kernel_rfl) ?_
      refine wpF_end (by kernel_rfl) ?_
      refine then_code ?_
      refine wpC_ret ?_
      refine then_ret ?_
      refine body_ret1 (by kernel_rfl) (show resVal Try.prog 22 _ _ (.tmp 2) (.int .i64 ((0 : Nat) : Int)) by (show _ = _; kernel_rfl)) ?_
      exact ⟨congrArg (fun z : Nat => Value.int .i64 (z : Int)) (by unfold chkE; simp_all [Ent.eqb, Ent.zero] <;> omega), hEw1⟩
    · replace hc15 : ¬ (x.st = 1) := by have := of_eq_f hc15; omega
      refine wpF_run 3 [(18, (.pointer (some ⟨w.heap.size, 0, none⟩))), (17, (.bool false)), (16, (.bool false))] (by kernel_rfl) ?_
      refine wpF_step (op_v (d := (some 19)) (s := Instr.loadAt 5 (.pointer (some ⟨w.heap.size, 0, none⟩))) (v := (.int .u8 ((x.st : Nat) : Int))) (by kernel_rfl) (rn_ld (by kernel_rfl) (hBw1.cell rfl)) ?_)
      refine wpF_step (op_split (d := (some 20)) ((((x.st : Nat) : Int) == ((2 : Nat) : Int))) (by kernel_rfl) (fun hc20 => ?_) (fun hc20 => ?_))
      · replace hc20 : x.st = 2 := by have := of_eq_t hc20; omega
        refine wpF_run 1 [(21, (.bool true))] (by kernel_rfl) ?_
        refine wpF_end (by kernel_rfl) ?_
        refine then_code ?_
        refine wpC_true (by kernel_rfl) ?_
        refine wpC_seq ?_
        refine wpC_region ?_
        refine wpF_run 1 [(2, (.int .i64 ((0 : Nat) : Int)))] (by kernel_rfl) ?_
        refine wpF_end (by kernel_rfl) ?_
        refine then_code ?_
        refine wpC_ret ?_
        refine then_ret ?_
        refine body_ret1 (by kernel_rfl) (show resVal Try.prog 22 _ _ (.tmp 2) (.int .i64 ((0 : Nat) : Int)) by (show _ = _; kernel_rfl)) ?_
        exact ⟨congrArg (fun z : Nat => Value.int .i64 (z : Int)) (by unfold chkE; simp_all [Ent.eqb, Ent.zero] <;> omega), hEw1⟩
      · replace hc20 : ¬ (x.st = 2) := by have := of_eq_f hc20; omega
        refine wpF_run 1 [(21, (.bool false))] (by kernel_rfl) ?_
        refine wpF_end (by kernel_rfl) ?_
        refine then_code ?_
        refine wpC_false (by kernel_rfl) ?_
        refine wpC_skip ?_
        refine then_code ?_
        refine wpC_seq ?_
        refine wpC_region ?_
        refine wpF_run 1 [(2, (.int .i64 ((1 : Nat) : Int)))] (by kernel_rfl) ?_
        refine wpF_end (by kernel_rfl) ?_
        refine then_code ?_
        refine wpC_ret ?_
        refine body_ret1 (by kernel_rfl) (show resVal Try.prog 22 _ _ (.tmp 2) (.int .i64 ((1 : Nat) : Int)) by (show _ = _; kernel_rfl)) ?_
        exact ⟨congrArg (fun z : Nat => Value.int .i64 (z : Int)) (by unfold chkE; simp_all [Ent.eqb, Ent.zero] <;> omega), hEw1⟩

theorem c_noncePut (x : Non)  (w : World)  :
    Calls Try.prog 54 #[(.agg (nonC x).toArray)] w (Ret fun r w' => ∃ a0, r = (.slice a0 12 12) ∧ Bs w.heap.size w'.heap.size w' a0 12 12 (nonB x) ∧ Ext w w') := by
  refine calls_of (n := 11) (σ := [(0, (.agg (nonC x).toArray))]) Try.func54 rfl (by kernel_rfl) ?_
  refine wpC_seq ?_
  refine wpC_region ?_
  refine wpF_step (op_new (d := (some 1)) (s := Instr.box 48 (.agg (nonC x).toArray)) (.pointer (some ⟨w.heap.size, 0, none⟩)) (nonC x) 48 (by kernel_rfl) (by kernel_rfl) ?_)
  intro w1 hBw1 hEw1
  have hzw1 := hEw1.size; have hlw1 := hBw1.lt
  refine wpF_run 1 [(2, (.slice none 0 0))] (by kernel_rfl) ?_
  refine wpF_end (by kernel_rfl) ?_
  refine then_code ?_
  refine wpC_seq ?_
  refine wpC_drawM (Ext w1.drew) 9 [(4, 2, 0), (5, 8, 1), (6, 16, 2), (7, 2, 0), (8, 64, 8), (9, 128, 20), (10, 288, 36), (11, 512, 96), (3, 1024, 255)] (by kernel_rfl) ⟨by kernel_rfl, by kernel_rfl, by kernel_rfl⟩ (fun hT786 => ?_)
  have hEw2 : Ext w1 w1.drew := Ext.drew w1
  generalize w1.drew = w2 at hEw2 ⊢
  have hzw2 := hEw2.size
  refine anyM_run hT786 0 1 [(3, (.pointer (some ⟨w.heap.size, 0, none⟩)))] (QPan.then put_panic_bodyPost) (by kernel_rfl) (by kernel_rfl) (show Ext w2 w2 from (Ext.refl _)) (fun _ => by kernel_rfl) ?_
  refine anyM_take hT786 1 3 (some 4) (.int .u32 ((x.sh : Nat) : Int)) (QPan.then put_panic_bodyPost) (by kernel_rfl) (by kernel_rfl) (show Ext w2 w2 from (Ext.refl _)) (yld_val (s := Instr.loadAt 28 (.pointer (some ⟨w.heap.size, 0, none⟩))) (by kernel_rfl) (fun w' hC => rn_ld (by kernel_rfl) (((hBw1.ext hEw2).ext hC).cell rfl))) ?_
  refine anyM_run hT786 3 11 [(6, (.pointer (some ⟨w.heap.size, 1, none⟩)))] (QPan.then put_panic_bodyPost) (by kernel_rfl) (by kernel_rfl) (show Ext w2 w2 from (Ext.refl _)) (fun _ => by kernel_rfl) ?_
  refine anyM_take hT786 4 27 (some 7) (.int .u64 ((x.ct : Nat) : Int)) (QPan.then put_panic_bodyPost) (by kernel_rfl) (by kernel_rfl) (show Ext w2 w2 from (Ext.refl _)) (yld_val (s := Instr.loadAt 22 (.pointer (some ⟨w.heap.size, 1, none⟩))) (by kernel_rfl) (fun w' hC => rn_ld (by kernel_rfl) (((hBw1.ext hEw2).ext hC).cell rfl))) ?_
  refine anyM_one 2 31 (by kernel_rfl) (by kernel_rfl) (op_callAt (d := (some 5)) (by kernel_rfl) (c_Put32 x.sh _ (x.hsh)) ?_)
  rintro _ w3 ⟨a1, rfl, hFz1_0, hEw3⟩
  have hzw3 := hEw3.size
  refine ⟨.inr hEw3, ?_⟩
  refine anyM_one 5 63 (by kernel_rfl) (by kernel_rfl) (op_callAt (d := (some 8)) (by kernel_rfl) (c_Put64 x.ct _) ?_)
  rintro _ w4 ⟨a2, rfl, hFz2_0, hEw4⟩
  have hzw4 := hEw4.size
  refine ⟨.inr (hEw3.trans hEw4), ?_⟩
  refine anyM_one 6 127 (by kernel_rfl) (by kernel_rfl) (op_new (d := (some 9)) (s := Instr.buildSlice 84 2 #[(0, (.slice a1 4 4)), (1, (.slice a2 8 8))]) (.slice (some ⟨w4.heap.size, 0, none⟩) 2 2) [(.slice a1 4 4), (.slice a2 8 8)] 23 (by kernel_rfl) (by kernel_rfl) ?_)
  intro w5 hBw5 hEw5
  have hzw5 := hEw5.size; have hlw5 := hBw5.lt
  have hSw5 : Ps 0 w5.heap.size w5 (some ⟨w4.heap.size, 0, none⟩) 2 2 [(.slice a1 4 4), (.slice a2 8 8)] [be x.sh 4, be x.ct 8] := Ps.of_new hBw5 rfl (by decide) (Parts.cons (Part.at (((hFz1_0.ext hEw4)).ext hEw5)) (Parts.cons (Part.at (hFz2_0.ext hEw5)) Parts.nil))
  refine ⟨.inr ((hEw3.trans hEw4).trans hEw5), ?_⟩
  refine anyM_one 7 255 (by kernel_rfl) (by kernel_rfl) (op_callAt (d := (some 10)) (by kernel_rfl) (c_Join _ hSw5 (by simp [sumLen] <;> omega)) ?_)
  rintro _ w6 ⟨a3, rfl, hFz3_0, hFz3_1, hFz3_2, hFz3_3, hEw6⟩
  have hzw6 := hEw6.size
  have hla3 := hFz3_1.lt; have hna3 := hFz3_3
  have hSa3 : Bs a3 (a3 + 1) w6 (some ⟨a3, 0, none⟩) (sumLen ([be x.sh 4, be x.ct 8])) (sumLen ([be x.sh 4, be x.ct 8])) (([be x.sh 4, be x.ct 8]).flatten) := Bs.of_blk hFz3_1 rfl hFz3_2 (Nat.le_refl _) (le_maxLen hna3) (Nat.le_refl _) (Nat.lt_succ_self _)
  rw [show sumLen ([be x.sh 4, be x.ct 8]) = 12 from by simp [sumLen]]
  refine ⟨.inr (((hEw3.trans hEw4).trans hEw5).trans hEw6), ?_⟩
  refine anyM_run hT786 8 511 [(2, (.slice (some ⟨a3, 0, none⟩) 12 12))] (QPan.then put_panic_bodyPost) (by kernel_rfl) (by kernel_rfl) (show Ext w2 w6 from (((hEw3.trans hEw4).trans hEw5).trans hEw6)) (fun _ => by kernel_rfl) ?_
  refine anyM_done (by kernel_rfl) ?_
  refine then_code ?_
  refine wpC_ret ?_
  refine body_ret1 (by kernel_rfl) (show resVal Try.prog 11 _ _ (.tmp 2) (.slice (some ⟨a3, 0, none⟩) 12 12) by (show _ = _; kernel_rfl)) ?_
  exact ⟨_, rfl, by simpa [nonB, sumLen] using hSa3.mono (by omega) (by omega), (((((hEw1.trans hEw2).trans hEw3).trans hEw4).trans hEw5).trans hEw6)⟩

theorem c_rNoncePut (x : Non)  (w : World)  :
    Calls Try.prog 57 #[(.agg (nonC x).toArray)] w (Ret fun r w' => ∃ a0 ca0, r = (.slice a0 12 ca0) ∧ Es u8v w.heap.size w'.heap.size w' a0 12 ca0 (nonB x) ∧ Ext w w') := by
  refine calls_of (n := 10) (σ := [(0, (.agg (nonC x).toArray))]) Try.func57 rfl (by kernel_rfl) ?_
  refine wpC_seq ?_
  refine wpC_region ?_
  refine wpF_step (op_new (d := (some 1)) (s := Instr.box 48 (.agg (nonC x).toArray)) (.pointer (some ⟨w.heap.size, 0, none⟩)) (nonC x) 48 (by kernel_rfl) (by kernel_rfl) ?_)
  intro w1 hBw1 hEw1
  have hzw1 := hEw1.size; have hlw1 := hBw1.lt
  refine wpF_run 1 [(2, (.slice none 0 0))] (by kernel_rfl) ?_
  refine wpF_end (by kernel_rfl) ?_
  refine then_code ?_
  refine wpC_seq ?_
  refine wpC_drawM (Ext w1.drew) 8 [(4, 2, 0), (5, 8, 1), (6, 16, 2), (7, 2, 0), (8, 64, 8), (9, 128, 20), (10, 288, 36), (3, 512, 127)] (by kernel_rfl) ⟨by kernel_rfl, by kernel_rfl, by kernel_rfl⟩ (fun hT833 => ?_)
  have hEw2 : Ext w1 w1.drew := Ext.drew w1
  generalize w1.drew = w2 at hEw2 ⊢
  have hzw2 := hEw2.size
  refine anyM_run hT833 0 1 [(3, (.pointer (some ⟨w.heap.size, 0, none⟩)))] (QPan.then put_panic_bodyPost) (by kernel_rfl) (by kernel_rfl) (show Ext w2 w2 from (Ext.refl _)) (fun _ => by kernel_rfl) ?_
  refine anyM_take hT833 1 3 (some 4) (.int .u32 ((x.sh : Nat) : Int)) (QPan.then put_panic_bodyPost) (by kernel_rfl) (by kernel_rfl) (show Ext w2 w2 from (Ext.refl _)) (yld_val (s := Instr.loadAt 28 (.pointer (some ⟨w.heap.size, 0, none⟩))) (by kernel_rfl) (fun w' hC => rn_ld (by kernel_rfl) (((hBw1.ext hEw2).ext hC).cell rfl))) ?_
  refine anyM_run hT833 3 11 [(6, (.pointer (some ⟨w.heap.size, 1, none⟩)))] (QPan.then put_panic_bodyPost) (by kernel_rfl) (by kernel_rfl) (show Ext w2 w2 from (Ext.refl _)) (fun _ => by kernel_rfl) ?_
  refine anyM_take hT833 4 27 (some 7) (.int .u64 ((x.ct : Nat) : Int)) (QPan.then put_panic_bodyPost) (by kernel_rfl) (by kernel_rfl) (show Ext w2 w2 from (Ext.refl _)) (yld_val (s := Instr.loadAt 22 (.pointer (some ⟨w.heap.size, 1, none⟩))) (by kernel_rfl) (fun w' hC => rn_ld (by kernel_rfl) (((hBw1.ext hEw2).ext hC).cell rfl))) ?_
  refine anyM_one 2 31 (by kernel_rfl) (by kernel_rfl) (op_callAt (d := (some 5)) (by kernel_rfl) (c_rPut32 x.sh _ (x.hsh)) ?_)
  rintro _ w3 ⟨a1, rfl, hFz1_0, hFz1_1, hFz1_2, hFz1_3, hEw3⟩
  have hzw3 := hEw3.size
  have hla1 := hFz1_1.lt; have hna1 := hFz1_3
  have hSa1 : Bs a1 (a1 + 1) w3 (some ⟨a1, 0, none⟩) 4 4 (be x.sh 4) := Bs.of_blk hFz1_1 rfl hFz1_2 (Nat.le_refl _) (le_maxLen hna1) (Nat.le_refl _) (Nat.lt_succ_self _)
  refine ⟨.inr hEw3, ?_⟩
  refine anyM_one 5 63 (by kernel_rfl) (by kernel_rfl) (op_callAt (d := (some 8)) (by kernel_rfl) (c_rPut64 x.ct _ (x.hct)) ?_)
  rintro _ w4 ⟨a2, rfl, hFz2_0, hFz2_1, hFz2_2, hFz2_3, hEw4⟩
  have hzw4 := hEw4.size
  have hla2 := hFz2_1.lt; have hna2 := hFz2_3
  have hSa2 : Bs a2 (a2 + 1) w4 (some ⟨a2, 0, none⟩) 8 8 (be x.ct 8) := Bs.of_blk hFz2_1 rfl hFz2_2 (Nat.le_refl _) (le_maxLen hna2) (Nat.le_refl _) (Nat.lt_succ_self _)
  refine ⟨.inr (hEw3.trans hEw4), ?_⟩
  have hO1 : Own u8v a1 (a1 + 1) w4 (some ⟨a1, 0, none⟩) 4 4 5 (be x.sh 4) := Own.of_blk (hFz1_1.ext hEw4) (by simp) (by first | rfl | exact rfl) (hSa1.ext hEw4).len_eq (Nat.le_refl _) (by simp only [maxLen]; omega) (Nat.le_refl _) (Nat.lt_succ_self _)
  refine anyM_one 6 127 (by kernel_rfl) (by kernel_rfl) (op_append (d := (some 9)) 23 23 5 1 (.int .u8 0) (some ⟨a1, 0, none⟩) 4 4 (some ⟨a2, 0, none⟩) 8 8 (by kernel_rfl) (by kernel_rfl) (by kernel_rfl) (by kernel_rfl) (fun _ => rfl) hO1 hSa2.es (by simp only [maxLen]; omega) (by omega) (by omega) ?_)
  intro a3 c1 w5 hOw5 hCw5
  have hzw5 := hCw5.size
  have hSw5 := hOw5.bs
  refine ⟨.inr (Ext.ownS (hEw3.trans hEw4) hCw5 (fun k hs hk => by have hn := hO1.ne hs; omega)), ?_⟩
  refine anyM_run hT833 7 255 [(2, (.slice a3 (4 + 8) c1))] (QPan.then put_panic_bodyPost) (by kernel_rfl) (by kernel_rfl) (show Ext w2 w5 from (Ext.ownS (hEw3.trans hEw4) hCw5 (fun k hs hk => by have hn := hO1.ne hs; omega))) (fun _ => by kernel_rfl) ?_
  refine anyM_done (by kernel_rfl) ?_
  refine then_code ?_
  refine wpC_ret ?_
  refine body_ret1 (by kernel_rfl) (show resVal Try.prog 10 _ _ (.tmp 2) (.slice a3 (4 + 8) c1) by (show _ = _; kernel_rfl)) ?_
  exact ⟨_, _, rfl, by have hz := hOw5; simpa [nonB, recB, entB, celB] using (hz.es.mono (lo' := w.heap.size) (hi' := w5.heap.size) (by omega) (by omega)), (Ext.ownS (((hEw1.trans hEw2).trans hEw3).trans hEw4) hCw5 (fun k hs hk => by have hn := hO1.ne hs; omega))⟩

theorem c_rRecord (x : Rec)  (w : World)  :
    Calls Try.prog 35 #[(.agg (recC x).toArray)] w (Ret fun r w' => ∃ a0 ca0, r = (.slice a0 45 ca0) ∧ Es u8v w.heap.size w'.heap.size w' a0 45 ca0 (recB x) ∧ Ext w w') := by
  refine calls_of (n := 13) (σ := [(0, (.agg (recC x).toArray))]) Try.func35 rfl (by kernel_rfl) ?_
  refine wpC_seq ?_
  refine wpC_region ?_
  refine wpF_step (op_new (d := (some 1)) (s := Instr.box 52 (.agg (recC x).toArray)) (.pointer (some ⟨w.heap.size, 0, none⟩)) (recC x) 52 (by kernel_rfl) (by kernel_rfl) ?_)
  intro w1 hBw1 hEw1
  have hzw1 := hEw1.size; have hlw1 := hBw1.lt
  refine wpF_run 1 [(2, (.slice none 0 0))] (by kernel_rfl) ?_
  refine wpF_end (by kernel_rfl) ?_
  refine then_code ?_
  refine wpC_seq ?_
  refine wpC_drawM (Ext w1.drew) 11 [(4, 2, 0), (5, 8, 1), (6, 16, 2), (7, 2, 0), (8, 64, 8), (9, 128, 16), (10, 288, 36), (11, 2, 0), (12, 1024, 128), (13, 2560, 320), (3, 4096, 1023)] (by kernel_rfl) ⟨by kernel_rfl, by kernel_rfl, by kernel_rfl⟩ (fun hT878 => ?_)
  have hEw2 : Ext w1 w1.drew := Ext.drew w1
  generalize w1.drew = w2 at hEw2 ⊢
  have hzw2 := hEw2.size
  refine anyM_run hT878 0 1 [(3, (.pointer (some ⟨w.heap.size, 0, none⟩)))] (QPan.then put_panic_bodyPost) (by kernel_rfl) (by kernel_rfl) (show Ext w2 w2 from (Ext.refl _)) (fun _ => by kernel_rfl) ?_
  refine anyM_take hT878 1 3 (some 4) (.int .u8 ((x.st : Nat) : Int)) (QPan.then put_panic_bodyPost) (by kernel_rfl) (by kernel_rfl) (show Ext w2 w2 from (Ext.refl _)) (yld_val (s := Instr.loadAt 5 (.pointer (some ⟨w.heap.size, 0, none⟩))) (by kernel_rfl) (fun w' hC => rn_ld (by kernel_rfl) (((hBw1.ext hEw2).ext hC).cell rfl))) ?_
  refine anyM_run hT878 3 11 [(6, (.pointer (some ⟨w.heap.size, 1, none⟩)))] (QPan.then put_panic_bodyPost) (by kernel_rfl) (by kernel_rfl) (show Ext w2 w2 from (Ext.refl _)) (fun _ => by kernel_rfl) ?_
  refine anyM_take hT878 4 27 (some 7) (.agg (nonC x.non).toArray) (QPan.then put_panic_bodyPost) (by kernel_rfl) (by kernel_rfl) (show Ext w2 w2 from (Ext.refl _)) (yld_val (s := Instr.loadAt 48 (.pointer (some ⟨w.heap.size, 1, none⟩))) (by kernel_rfl) (fun w' hC => rn_lda (vs := nonC x.non) (by kernel_rfl) (by rw [nonC_len]; kernel_rfl) (((hBw1.ext hEw2).ext hC).at 1 (nonC x.non) (rec_non _)))) ?_
  refine anyM_run hT878 7 155 [(10, (.pointer (some ⟨w.heap.size, 3, none⟩)))] (QPan.then put_panic_bodyPost) (by kernel_rfl) (by kernel_rfl) (show Ext w2 w2 from (Ext.refl _)) (fun _ => by kernel_rfl) ?_
  refine anyM_take hT878 8 411 (some 11) (.slice (some ⟨w.heap.size, 3, none⟩) 32 32) (QPan.then put_panic_bodyPost) (by kernel_rfl) (by kernel_rfl) (show Ext w2 w2 from (Ext.refl _)) (yld_val (s := Instr.sliceAt 50 (.pointer (some ⟨w.heap.size, 3, none⟩)) none none none) (by kernel_rfl) (fun w' hC => rn_sla (E := 5) (sz := 1) (m := 32) (by kernel_rfl) (by kernel_rfl))) ?_
  have hS1 : Bs w.heap.size (w.heap.size + 1) w2 (some ⟨w.heap.size, 3, none⟩) 32 32 x.tag.l := Bs.of_at ((hBw1.ext hEw2).at 3 (digC x.tag) (rec_tag _)) ((hBw1.ext hEw2)).lt x.tag.h.symm (by decide) (by omega) (by omega)
  refine anyM_two 2 5 415 443 (by kernel_rfl) (by kernel_rfl) (by kernel_rfl) ?_ ?_
  · refine op_new (d := (some 5)) (s := Instr.buildSlice 23 1 #[(0, (.int .u8 ((x.st : Nat) : Int)))]) (.slice (some ⟨w2.heap.size, 0, none⟩) 1 1) [(.int .u8 ((x.st : Nat) : Int))] 5 (by kernel_rfl) (by kernel_rfl) ?_
    intro w3 hBw3 hEw3
    have hzw3 := hEw3.size; have hlw3 := hBw3.lt
    have hSw3 : Bs w2.heap.size (w2.heap.size + 1) w3 (some ⟨w2.heap.size, 0, none⟩) 1 1 [UInt8.ofNat x.st] := Bs.of_blk hBw3 (u8s_sing x.hst) rfl (Nat.le_refl _) (by decide) (Nat.le_refl _) (Nat.lt_succ_self _)
    refine ⟨.inr hEw3, ?_⟩
    refine anyM_one 5 447 (by kernel_rfl) (by kernel_rfl) (op_callAt (d := (some 8)) (by kernel_rfl) (c_rNoncePut x.non _) ?_)
    rintro _ w4 ⟨a1, ca1, rfl, hFz1_0, hEw4⟩
    have hzw4 := hEw4.size
    have hlea1 := hFz1_0.le
    have hba1 := hFz1_0.bs
    refine ⟨.inr (hEw3.trans hEw4), ?_⟩
    have hO1 : Own u8v w2.heap.size (w2.heap.size + 1) w4 (some ⟨w2.heap.size, 0, none⟩) 1 1 5 ([UInt8.ofNat x.st]) := Own.of_blk (hBw3.ext hEw4) (by simp) (by first | rfl | exact (u8s_sing x.hst)) (hSw3.ext hEw4).len_eq (Nat.le_refl _) (by simp only [maxLen]; omega) (Nat.le_refl _) (Nat.lt_succ_self _)
    refine anyM_one 6 511 (by kernel_rfl) (by kernel_rfl) (op_append (d := (some 9)) 23 23 5 1 (.int .u8 0) (some ⟨w2.heap.size, 0, none⟩) 1 1 a1 12 ca1 (by kernel_rfl) (by kernel_rfl) (by kernel_rfl) (by kernel_rfl) (fun _ => rfl) hO1 hba1.es (by simp only [maxLen]; omega) (by omega) (by omega) ?_)
    intro a2 c1 w5 hOw5 hCw5
    have hzw5 := hCw5.size
    have hSw5 := hOw5.bs
    refine ⟨.inr (Ext.ownS (hEw3.trans hEw4) hCw5 (fun k hs hk => by have hn := hO1.ne hs; omega)), ?_⟩
    refine anyM_one 9 1023 (by kernel_rfl) (by kernel_rfl) (op_append (d := (some 12)) 23 23 5 1 (.int .u8 0) a2 (1 + 12) c1 (some ⟨w.heap.size, 3, none⟩) 32 32 (by kernel_rfl) (by kernel_rfl) (by kernel_rfl) (by kernel_rfl) (fun _ => rfl) hOw5 (((((hS1.ext hEw3)).ext hEw4)).chg hCw5 (fun k h1 h2 hs => by have hn := hO1.ne hs; omega)).es (by simp only [maxLen]; omega) (by omega) (by omega) ?_)
    intro a3 c2 w6 hOw6 hCw6
    have hzw6 := hCw6.size
    have hSw6 := hOw6.bs
    refine ⟨.inr (Ext.ownS (Ext.ownS (hEw3.trans hEw4) hCw5 (fun k hs hk => by have hn := hO1.ne hs; omega)) hCw6 (fun k hs hk => by have hn := hOw5.ne hs; omega)), ?_⟩
    refine anyM_run hT878 10 2047 [(2, (.slice a3 (1 + 12 + 32) c2))] (QPan.then put_panic_bodyPost) (by kernel_rfl) (by kernel_rfl) (show Ext w2 w6 from (Ext.ownS (Ext.ownS (hEw3.trans hEw4) hCw5 (fun k hs hk => by have hn := hO1.ne hs; omega)) hCw6 (fun k hs hk => by have hn := hOw5.ne hs; omega))) (fun _ => by kernel_rfl) ?_
    refine anyM_done (by kernel_rfl) ?_
    refine then_code ?_
    refine wpC_ret ?_
    refine body_ret1 (by kernel_rfl) (show resVal Try.prog 13 _ _ (.tmp 2) (.slice a3 (1 + 12 + 32) c2) by (show _ = _; kernel_rfl)) ?_
    exact ⟨_, _, rfl, by have hz := hOw6; simpa [nonB, recB, entB, celB] using (hz.es.mono (lo' := w.heap.size) (hi' := w6.heap.size) (by omega) (by omega)), (Ext.ownS (Ext.ownS (((hEw1.trans hEw2).trans hEw3).trans hEw4) hCw5 (fun k hs hk => by have hn := hO1.ne hs; omega)) hCw6 (fun k hs hk => by have hn := hOw5.ne hs; omega))⟩
  · refine op_callAt (d := (some 8)) (by kernel_rfl) (c_rNoncePut x.non _) ?_
    rintro _ w7 ⟨a4, ca4, rfl, hFz2_0, hEw7⟩
    have hzw7 := hEw7.size
    have hlea4 := hFz2_0.le
    have hba4 := hFz2_0.bs
    refine ⟨.inr hEw7, ?_⟩
    refine anyM_one 2 447 (by kernel_rfl) (by kernel_rfl) (op_new (d := (some 5)) (s := Instr.buildSlice 23 1 #[(0, (.int .u8 ((x.st : Nat) : Int)))]) (.slice (some ⟨w7.heap.size, 0, none⟩) 1 1) [(.int .u8 ((x.st : Nat) : Int))] 5 (by kernel_rfl) (by kernel_rfl) ?_)
    intro w8 hBw8 hEw8
    have hzw8 := hEw8.size; have hlw8 := hBw8.lt
    have hSw8 : Bs w7.heap.size (w7.heap.size + 1) w8 (some ⟨w7.heap.size, 0, none⟩) 1 1 [UInt8.ofNat x.st] := Bs.of_blk hBw8 (u8s_sing x.hst) rfl (Nat.le_refl _) (by decide) (Nat.le_refl _) (Nat.lt_succ_self _)
    refine ⟨.inr (hEw7.trans hEw8), ?_⟩
    have hO2 : Own u8v w7.heap.size (w7.heap.size + 1) w8 (some ⟨w7.heap.size, 0, none⟩) 1 1 5 ([UInt8.ofNat x.st]) := Own.of_blk hBw8 (by simp) (by first | rfl | exact (u8s_sing x.hst)) hSw8.len_eq (Nat.le_refl _) (by simp only [maxLen]; omega) (Nat.le_refl _) (Nat.lt_succ_self _)
    refine anyM_one 6 511 (by kernel_rfl) (by kernel_rfl) (op_append (d := (some 9)) 23 23 5 1 (.int .u8 0) (some ⟨w7.heap.size, 0, none⟩) 1 1 a4 12 ca4 (by kernel_rfl) (by kernel_rfl) (by kernel_rfl) (by kernel_rfl) (fun _ => rfl) hO2 (hba4.ext hEw8).es (by simp only [maxLen]; omega) (by omega) (by omega) ?_)
    intro a5 c3 w9 hOw9 hCw9
    have hzw9 := hCw9.size
    have hSw9 := hOw9.bs
    refine ⟨.inr (Ext.ownS (hEw7.trans hEw8) hCw9 (fun k hs hk => by have hn := hO2.ne hs; omega)), ?_⟩
    refine anyM_one 9 1023 (by kernel_rfl) (by kernel_rfl) (op_append (d := (some 12)) 23 23 5 1 (.int .u8 0) a5 (1 + 12) c3 (some ⟨w.heap.size, 3, none⟩) 32 32 (by kernel_rfl) (by kernel_rfl) (by kernel_rfl) (by kernel_rfl) (fun _ => rfl) hOw9 (((((hS1.ext hEw7)).ext hEw8)).chg hCw9 (fun k h1 h2 hs => by have hn := hO2.ne hs; omega)).es (by simp only [maxLen]; omega) (by omega) (by omega) ?_)
    intro a6 c4 w10 hOw10 hCw10
    have hzw10 := hCw10.size
    have hSw10 := hOw10.bs
    refine ⟨.inr (Ext.ownS (Ext.ownS (hEw7.trans hEw8) hCw9 (fun k hs hk => by have hn := hO2.ne hs; omega)) hCw10 (fun k hs hk => by have hn := hOw9.ne hs; omega)), ?_⟩
    refine anyM_run hT878 10 2047 [(2, (.slice a6 (1 + 12 + 32) c4))] (QPan.then put_panic_bodyPost) (by kernel_rfl) (by kernel_rfl) (show Ext w2 w10 from (Ext.ownS (Ext.ownS (hEw7.trans hEw8) hCw9 (fun k hs hk => by have hn := hO2.ne hs; omega)) hCw10 (fun k hs hk => by have hn := hOw9.ne hs; omega))) (fun _ => by kernel_rfl) ?_
    refine anyM_done (by kernel_rfl) ?_
    refine then_code ?_
    refine wpC_ret ?_
    refine body_ret1 (by kernel_rfl) (show resVal Try.prog 13 _ _ (.tmp 2) (.slice a6 (1 + 12 + 32) c4) by (show _ = _; kernel_rfl)) ?_
    exact ⟨_, _, rfl, by have hz := hOw10; simpa [nonB, recB, entB, celB] using (hz.es.mono (lo' := w.heap.size) (hi' := w10.heap.size) (by omega) (by omega)), (Ext.ownS (Ext.ownS (((hEw1.trans hEw2).trans hEw7).trans hEw8) hCw9 (fun k hs hk => by have hn := hO2.ne hs; omega)) hCw10 (fun k hs hk => by have hn := hOw9.ne hs; omega))⟩

theorem c_rEntry (x : Ent)  (w : World)  :
    Calls Try.prog 40 #[(.agg (entC x).toArray)] w (Ret fun r w' => ∃ a0 ca0, r = (.slice a0 33 ca0) ∧ Es u8v w.heap.size w'.heap.size w' a0 33 ca0 (entB x) ∧ Ext w w') := by
  refine calls_of (n := 9) (σ := [(0, (.agg (entC x).toArray))]) Try.func40 rfl (by kernel_rfl) ?_
  refine wpC_seq ?_
  refine wpC_region ?_
  refine wpF_step (op_new (d := (some 1)) (s := Instr.box 61 (.agg (entC x).toArray)) (.pointer (some ⟨w.heap.size, 0, none⟩)) (entC x) 61 (by kernel_rfl) (by kernel_rfl) ?_)
  intro w1 hBw1 hEw1
  have hzw1 := hEw1.size; have hlw1 := hBw1.lt
  refine wpF_run 1 [(2, (.slice none 0 0))] (by kernel_rfl) ?_
  refine wpF_end (by kernel_rfl) ?_
  refine then_code ?_
  refine wpC_seq ?_
  refine wpC_drawM (Ext w1.drew) 7 [(4, 2, 0), (5, 8, 1), (6, 16, 2), (7, 2, 0), (8, 64, 8), (9, 160, 20), (3, 256, 63)] (by kernel_rfl) ⟨by kernel_rfl, by kernel_rfl, by kernel_rfl⟩ (fun hT959 => ?_)
  have hEw2 : Ext w1 w1.drew := Ext.drew w1
  generalize w1.drew = w2 at hEw2 ⊢
  have hzw2 := hEw2.size
  refine anyM_run hT959 0 1 [(3, (.pointer (some ⟨w.heap.size, 0, none⟩)))] (QPan.then put_panic_bodyPost) (by kernel_rfl) (by kernel_rfl) (show Ext w2 w2 from (Ext.refl _)) (fun _ => by kernel_rfl) ?_
  refine anyM_take hT959 1 3 (some 4) (.int .u8 ((x.st : Nat) : Int)) (QPan.then put_panic_bodyPost) (by kernel_rfl) (by kernel_rfl) (show Ext w2 w2 from (Ext.refl _)) (yld_val (s := Instr.loadAt 5 (.pointer (some ⟨w.heap.size, 0, none⟩))) (by kernel_rfl) (fun w' hC => rn_ld (by kernel_rfl) (((hBw1.ext hEw2).ext hC).cell rfl))) ?_
  refine anyM_run hT959 3 11 [(6, (.pointer (some ⟨w.heap.size, 1, none⟩)))] (QPan.then put_panic_bodyPost) (by kernel_rfl) (by kernel_rfl) (show Ext w2 w2 from (Ext.refl _)) (fun _ => by kernel_rfl) ?_
  refine anyM_take hT959 4 27 (some 7) (.slice (some ⟨w.heap.size, 1, none⟩) 32 32) (QPan.then put_panic_bodyPost) (by kernel_rfl) (by kernel_rfl) (show Ext w2 w2 from (Ext.refl _)) (yld_val (s := Instr.sliceAt 50 (.pointer (some ⟨w.heap.size, 1, none⟩)) none none none) (by kernel_rfl) (fun w' hC => rn_sla (E := 5) (sz := 1) (m := 32) (by kernel_rfl) (by kernel_rfl))) ?_
  have hS1 : Bs w.heap.size (w.heap.size + 1) w2 (some ⟨w.heap.size, 1, none⟩) 32 32 x.dg.l := Bs.of_at ((hBw1.ext hEw2).at 1 (digC x.dg) (ent_dg _)) ((hBw1.ext hEw2)).lt x.dg.h.symm (by decide) (by omega) (by omega)
  refine anyM_one 2 31 (by kernel_rfl) (by kernel_rfl) (op_new (d := (some 5)) (s := Instr.buildSlice 23 1 #[(0, (.int .u8 ((x.st : Nat) : Int)))]) (.slice (some ⟨w2.heap.size, 0, none⟩) 1 1) [(.int .u8 ((x.st : Nat) : Int))] 5 (by kernel_rfl) (by kernel_rfl) ?_)
  intro w3 hBw3 hEw3
  have hzw3 := hEw3.size; have hlw3 := hBw3.lt
  have hSw3 : Bs w2.heap.size (w2.heap.size + 1) w3 (some ⟨w2.heap.size, 0, none⟩) 1 1 [UInt8.ofNat x.st] := Bs.of_blk hBw3 (u8s_sing x.hst) rfl (Nat.le_refl _) (by decide) (Nat.le_refl _) (Nat.lt_succ_self _)
  refine ⟨.inr hEw3, ?_⟩
  have hO1 : Own u8v w2.heap.size (w2.heap.size + 1) w3 (some ⟨w2.heap.size, 0, none⟩) 1 1 5 ([UInt8.ofNat x.st]) := Own.of_blk hBw3 (by simp) (by first | rfl | exact (u8s_sing x.hst)) hSw3.len_eq (Nat.le_refl _) (by simp only [maxLen]; omega) (Nat.le_refl _) (Nat.lt_succ_self _)
  refine anyM_one 5 63 (by kernel_rfl) (by kernel_rfl) (op_append (d := (some 8)) 23 23 5 1 (.int .u8 0) (some ⟨w2.heap.size, 0, none⟩) 1 1 (some ⟨w.heap.size, 1, none⟩) 32 32 (by kernel_rfl) (by kernel_rfl) (by kernel_rfl) (by kernel_rfl) (fun _ => rfl) hO1 (hS1.ext hEw3).es (by simp only [maxLen]; omega) (by omega) (by omega) ?_)
  intro a1 c1 w4 hOw4 hCw4
  have hzw4 := hCw4.size
  have hSw4 := hOw4.bs
  refine ⟨.inr (Ext.ownS hEw3 hCw4 (fun k hs hk => by have hn := hO1.ne hs; omega)), ?_⟩
  refine anyM_run hT959 6 127 [(2, (.slice a1 (1 + 32) c1))] (QPan.then put_panic_bodyPost) (by kernel_rfl) (by kernel_rfl) (show Ext w2 w4 from (Ext.ownS hEw3 hCw4 (fun k hs hk => by have hn := hO1.ne hs; omega))) (fun _ => by kernel_rfl) ?_
  refine anyM_done (by kernel_rfl) ?_
  refine then_code ?_
  refine wpC_ret ?_
  refine body_ret1 (by kernel_rfl) (show resVal Try.prog 9 _ _ (.tmp 2) (.slice a1 (1 + 32) c1) by (show _ = _; kernel_rfl)) ?_
  exact ⟨_, _, rfl, by have hz := hOw4; simpa [nonB, recB, entB, celB] using (hz.es.mono (lo' := w.heap.size) (hi' := w4.heap.size) (by omega) (by omega)), (Ext.ownS ((hEw1.trans hEw2).trans hEw3) hCw4 (fun k hs hk => by have hn := hO1.ne hs; omega))⟩

theorem c_rCell (x : Cel)  (w : World)  :
    Calls Try.prog 45 #[(.agg (celC x).toArray)] w (Ret fun r w' => ∃ a0 ca0, r = (.slice a0 48 ca0) ∧ Es u8v w.heap.size w'.heap.size w' a0 48 ca0 (celB x) ∧ Ext w w') := by
  refine calls_of (n := 17) (σ := [(0, (.agg (celC x).toArray))]) Try.func45 rfl (by kernel_rfl) ?_
  refine wpC_seq ?_
  refine wpC_region ?_
  refine wpF_step (op_new (d := (some 1)) (s := Instr.box 75 (.agg (celC x).toArray)) (.pointer (some ⟨w.heap.size, 0, none⟩)) (celC x) 75 (by kernel_rfl) (by kernel_rfl) ?_)
  intro w1 hBw1 hEw1
  have hzw1 := hEw1.size; have hlw1 := hBw1.lt
  refine wpF_run 1 [(2, (.slice none 0 0))] (by kernel_rfl) ?_
  refine wpF_end (by kernel_rfl) ?_
  refine then_code ?_
  refine wpC_seq ?_
  refine wpC_region ?_
  refine wpF_step (op_new (d := (some 4)) (s := Instr.buildSlice 23 0 #[]) (.slice (some ⟨w1.heap.size, 0, none⟩) 0 0) [] 5 (by kernel_rfl) (by kernel_rfl) ?_)
  intro w2 hBw2 hEw2
  have hzw2 := hEw2.size; have hlw2 := hBw2.lt
  have hSw2 : Bs w1.heap.size (w1.heap.size + 1) w2 (some ⟨w1.heap.size, 0, none⟩) 0 0 [] := Bs.of_blk hBw2 (by kernel_rfl) rfl (Nat.le_refl _) (by decide) (Nat.le_refl _) (Nat.lt_succ_self _)
  refine wpF_run 1 [(5, (.pointer (some ⟨w.heap.size, 0, none⟩)))] (by kernel_rfl) ?_
  refine wpF_step (op_v (d := (some 6)) (s := Instr.sliceAt 50 (.pointer (some ⟨w.heap.size, 0, none⟩)) none none none) (v := (.slice (some ⟨w.heap.size, 0, none⟩) 32 32)) (by kernel_rfl) (rn_sla (E := 5) (sz := 1) (m := 32) (by kernel_rfl) (by kernel_rfl)) ?_)
  have hS1 : Bs w.heap.size (w.heap.size + 1) w2 (some ⟨w.heap.size, 0, none⟩) 32 32 x.root.l := Bs.of_at ((hBw1.ext hEw2).at 0 (digC x.root) (cel_root _)) ((hBw1.ext hEw2)).lt x.root.h.symm (by decide) (by omega) (by omega)
  have hO1 : Own u8v w1.heap.size (w1.heap.size + 1) w2 (some ⟨w1.heap.size, 0, none⟩) 0 0 5 ([]) := Own.of_blk hBw2 (by simp) (by first | rfl | exact (u8s_sing x.hst)) hSw2.len_eq (Nat.le_refl _) (by simp only [maxLen]; omega) (Nat.le_refl _) (Nat.lt_succ_self _)
  refine wpF_step (op_append (d := (some 7)) 23 23 5 1 (.int .u8 0) (some ⟨w1.heap.size, 0, none⟩) 0 0 (some ⟨w.heap.size, 0, none⟩) 32 32 (by kernel_rfl) (by kernel_rfl) (by kernel_rfl) (by kernel_rfl) (fun _ => rfl) hO1 hS1.es (by simp only [maxLen]; omega) (by omega) (by omega) ?_)
  intro a1 c1 w3 hOw3 hCw3
  have hzw3 := hCw3.size
  have hSw3 := hOw3.bs
  refine wpF_run 1 [(3, (.slice a1 (0 + 32) c1))] (by kernel_rfl) ?_
  refine wpF_end (by kernel_rfl) ?_
  refine then_code ?_
  refine wpC_seq ?_
  refine wpC_drawM (Chg (fun k => w1.heap.size ≤ k) w3.drew) 10 [(9, 8, 0), (10, 2, 0), (11, 512, 2), (12, 1024, 4), (13, 2304, 9), (14, 2, 0), (15, 8192, 32), (16, 16384, 80), (17, 36864, 144), (3, 65536, 511)] (by kernel_rfl) ⟨by kernel_rfl, by kernel_rfl, by kernel_rfl⟩ (fun hT1015 => ?_)
  have hEw4 : Ext w3 w3.drew := Ext.drew w3
  generalize w3.drew = w4 at hEw4 ⊢
  have hzw4 := hEw4.size
  refine anyM_run hT1015 0 1 [(8, (.slice a1 (0 + 32) c1))] (QPan.then put_panic_bodyPost) (by kernel_rfl) (by kernel_rfl) (show Chg (fun k => w1.heap.size ≤ k) w4 w4 from (Chg.refl (fun k => w1.heap.size ≤ k) w4)) (fun _ => by kernel_rfl) ?_
  refine anyM_run hT1015 1 3 [(9, (.pointer (some ⟨w.heap.size, 32, none⟩)))] (QPan.then put_panic_bodyPost) (by kernel_rfl) (by kernel_rfl) (show Chg (fun k => w1.heap.size ≤ k) w4 w4 from (Chg.refl (fun k => w1.heap.size ≤ k) w4)) (fun _ => by kernel_rfl) ?_
  refine anyM_take hT1015 2 7 (some 10) (.int .u64 ((x.ep : Nat) : Int)) (QPan.then put_panic_bodyPost) (by kernel_rfl) (by kernel_rfl) (show Chg (fun k => w1.heap.size ≤ k) w4 w4 from (Chg.refl (fun k => w1.heap.size ≤ k) w4)) (yld_val (s := Instr.loadAt 22 (.pointer (some ⟨w.heap.size, 32, none⟩))) (by kernel_rfl) (fun w' hC => rn_ld (by kernel_rfl) (((((((hBw1.ext hEw2)).chg hCw3 (fun hs => by have hn := hO1.ne hs; omega))).ext hEw4).chg hC (fun hs => by have h : _ ≤ _ := hs; omega)).cell (cel_ep _)))) ?_
  refine anyM_run hT1015 5 39 [(13, (.pointer (some ⟨w.heap.size, 33, none⟩)))] (QPan.then put_panic_bodyPost) (by kernel_rfl) (by kernel_rfl) (show Chg (fun k => w1.heap.size ≤ k) w4 w4 from (Chg.refl (fun k => w1.heap.size ≤ k) w4)) (fun _ => by kernel_rfl) ?_
  refine anyM_take hT1015 6 103 (some 14) (.int .u64 ((x.mark : Nat) : Int)) (QPan.then put_panic_bodyPost) (by kernel_rfl) (by kernel_rfl) (show Chg (fun k => w1.heap.size ≤ k) w4 w4 from (Chg.refl (fun k => w1.heap.size ≤ k) w4)) (yld_val (s := Instr.loadAt 22 (.pointer (some ⟨w.heap.size, 33, none⟩))) (by kernel_rfl) (fun w' hC => rn_ld (by kernel_rfl) (((((((hBw1.ext hEw2)).chg hCw3 (fun hs => by have hn := hO1.ne hs; omega))).ext hEw4).chg hC (fun hs => by have h : _ ≤ _ := hs; omega)).cell (cel_mk _)))) ?_
  refine anyM_one 3 111 (by kernel_rfl) (by kernel_rfl) (op_callAt (d := (some 11)) (by kernel_rfl) (c_rPut64 x.ep _ (x.hep)) ?_)
  rintro _ w5 ⟨a2, rfl, hFz1_0, hFz1_1, hFz1_2, hFz1_3, hEw5⟩
  have hzw5 := hEw5.size
  have hla2 := hFz1_1.lt; have hna2 := hFz1_3
  have hSa2 : Bs a2 (a2 + 1) w5 (some ⟨a2, 0, none⟩) 8 8 (be x.ep 8) := Bs.of_blk hFz1_1 rfl hFz1_2 (Nat.le_refl _) (le_maxLen hna2) (Nat.le_refl _) (Nat.lt_succ_self _)
  refine ⟨.inr ((Chg.refl (fun k => w1.heap.size ≤ k) w4).trans hEw5.chg), ?_⟩
  refine anyM_one 4 127 (by kernel_rfl) (by kernel_rfl) (op_append (d := (some 12)) 23 23 5 1 (.int .u8 0) a1 (0 + 32) c1 (some ⟨a2, 0, none⟩) 8 8 (by kernel_rfl) (by kernel_rfl) (by kernel_rfl) (by kernel_rfl) (fun _ => rfl) (((hOw3.ext hEw4)).ext hEw5) hSa2.es (by simp only [maxLen]; omega) (by omega) (by omega) ?_)
  intro a3 c2 w6 hOw6 hCw6
  have hzw6 := hCw6.size
  have hSw6 := hOw6.bs
  refine ⟨.inr (Chg.then ((Chg.refl (fun k => w1.heap.size ≤ k) w4).trans hEw5.chg) hCw6 (fun k hk hs => by have hn := (((hOw3.ext hEw4)).ext hEw5).ne hs; show _ ≤ _; omega)), ?_⟩
  refine anyM_one 7 255 (by kernel_rfl) (by kernel_rfl) (op_callAt (d := (some 15)) (by kernel_rfl) (c_rPut64 x.mark _ (x.hmk)) ?_)
  rintro _ w7 ⟨a4, rfl, hFz2_0, hFz2_1, hFz2_2, hFz2_3, hEw7⟩
  have hzw7 := hEw7.size
  have hla4 := hFz2_1.lt; have hna4 := hFz2_3
  have hSa4 : Bs a4 (a4 + 1) w7 (some ⟨a4, 0, none⟩) 8 8 (be x.mark 8) := Bs.of_blk hFz2_1 rfl hFz2_2 (Nat.le_refl _) (le_maxLen hna4) (Nat.le_refl _) (Nat.lt_succ_self _)
  refine ⟨.inr ((Chg.then ((Chg.refl (fun k => w1.heap.size ≤ k) w4).trans hEw5.chg) hCw6 (fun k hk hs => by have hn := (((hOw3.ext hEw4)).ext hEw5).ne hs; show _ ≤ _; omega)).trans hEw7.chg), ?_⟩
  refine anyM_one 8 511 (by kernel_rfl) (by kernel_rfl) (op_append (d := (some 16)) 23 23 5 1 (.int .u8 0) a3 (0 + 32 + 8) c2 (some ⟨a4, 0, none⟩) 8 8 (by kernel_rfl) (by kernel_rfl) (by kernel_rfl) (by kernel_rfl) (fun _ => rfl) (hOw6.ext hEw7) hSa4.es (by simp only [maxLen]; omega) (by omega) (by omega) ?_)
  intro a5 c3 w8 hOw8 hCw8
  have hzw8 := hCw8.size
  have hSw8 := hOw8.bs
  refine ⟨.inr (Chg.then ((Chg.then ((Chg.refl (fun k => w1.heap.size ≤ k) w4).trans hEw5.chg) hCw6 (fun k hk hs => by have hn := (((hOw3.ext hEw4)).ext hEw5).ne hs; show _ ≤ _; omega)).trans hEw7.chg) hCw8 (fun k hk hs => by have hn := (hOw6.ext hEw7).ne hs; show _ ≤ _; omega)), ?_⟩
  refine anyM_run hT1015 9 1023 [(2, (.slice a5 (0 + 32 + 8 + 8) c3))] (QPan.then put_panic_bodyPost) (by kernel_rfl) (by kernel_rfl) (show Chg (fun k => w1.heap.size ≤ k) w4 w8 from (Chg.then ((Chg.then ((Chg.refl (fun k => w1.heap.size ≤ k) w4).trans hEw5.chg) hCw6 (fun k hk hs => by have hn := (((hOw3.ext hEw4)).ext hEw5).ne hs; show _ ≤ _; omega)).trans hEw7.chg) hCw8 (fun k hk hs => by have hn := (hOw6.ext hEw7).ne hs; show _ ≤ _; omega))) (fun _ => by kernel_rfl) ?_
  refine anyM_done (by kernel_rfl) ?_
  refine then_code ?_
  refine wpC_ret ?_
  refine body_ret1 (by kernel_rfl) (show resVal Try.prog 17 _ _ (.tmp 2) (.slice a5 (0 + 32 + 8 + 8) c3) by (show _ = _; kernel_rfl)) ?_
  exact ⟨_, _, rfl, by have hz := hOw8; simpa [nonB, recB, entB, celB] using (hz.es.mono (lo' := w.heap.size) (hi' := w8.heap.size) (by omega) (by omega)), (Ext.ownS ((Ext.ownS (((Ext.ownS (hEw1.trans hEw2) hCw3 (fun k hs hk => by have hn := hO1.ne hs; omega)).trans hEw4).trans hEw5) hCw6 (fun k hs hk => by have hn := (((hOw3.ext hEw4)).ext hEw5).ne hs; omega)).trans hEw7) hCw8 (fun k hs hk => by have hn := (hOw6.ext hEw7).ne hs; omega))⟩

theorem c_PutRecordBad (x : Rec)  (w : World) (hp0 : chkR x = 1) :
    Calls Try.prog 30 #[(.agg (recC x).toArray)] w (Ret fun r w' => r = (.tuple #[(.slice none 0 0), (.int .i64 ((1 : Nat) : Int))]) ∧ Ext w w') := by
  refine calls_of (n := 20) (σ := [(0, (.agg (recC x).toArray))]) Try.func30 rfl (by kernel_rfl) ?_
  refine wpC_seq ?_
  refine wpC_region ?_
  refine wpF_step (op_new (d := (some 1)) (s := Instr.box 52 (.agg (recC x).toArray)) (.pointer (some ⟨w.heap.size, 0, none⟩)) (recC x) 52 (by kernel_rfl) (by kernel_rfl) ?_)
  intro w1 hBw1 hEw1
  have hzw1 := hEw1.size; have hlw1 := hBw1.lt
  refine wpF_run 2 [(3, (.int .i64 ((0 : Nat) : Int))), (2, (.slice none 0 0))] (by kernel_rfl) ?_
  refine wpF_end (by kernel_rfl) ?_
  refine then_code ?_
  refine wpC_seq ?_
  refine wpC_seq ?_
  refine wpC_region ?_
  refine wpF_step (op_v (d := (some 5)) (s := Instr.loadAt 52 (.pointer (some ⟨w.heap.size, 0, none⟩))) (v := (.agg (recC x).toArray)) (by kernel_rfl) (rn_lda (vs := recC x) (by kernel_rfl) (by rw [recC_len]; kernel_rfl) (hBw1.all)) ?_)
  refine wpF_step (op_callAt (d := (some 6)) (by kernel_rfl) (c_CheckRecord x _) ?_)
  rintro _ w2 ⟨rfl, hEw2⟩
  have hzw2 := hEw2.size
  refine wpF_run 1 [(4, (.int .i64 ((chkR x : Nat) : Int)))] (by kernel_rfl) ?_
  refine wpF_end (by kernel_rfl) ?_
  refine then_code ?_
  refine wpC_seq ?_
  refine wpC_region ?_
  refine wpF_run 1 [(7, (.int .i64 ((chkR x : Nat) : Int)))] (by kernel_rfl) ?_
  refine wpF_step (op_eqv (d := (some 8)) (.bool ((((chkR x : Nat) : Int) != ((0 : Nat) : Int)))) (.bool true) (by kernel_rfl) (congrArg Value.bool (cmpNeT (by omega))) ?_)
  refine wpF_end (by kernel_rfl) ?_
  refine then_code ?_
  refine wpC_true (by kernel_rfl) ?_
  refine wpC_seq ?_
  refine wpC_region ?_
  refine wpF_run 3 [(3, (.int .i64 ((chkR x : Nat) : Int))), (2, (.slice none 0 0)), (9, (.int .i64 ((chkR x : Nat) : Int)))] (by kernel_rfl) ?_
  refine wpF_end (by kernel_rfl) ?_
  refine then_code ?_
  refine wpC_ret ?_
  refine then_ret ?_
  refine body_ret2 (by kernel_rfl) (show resVal Try.prog 20 _ _ (.tmp 2) (.slice none 0 0) by (show _ = _; kernel_rfl)) (show resVal Try.prog 20 _ _ (.tmp 3) (.int .i64 ((chkR x : Nat) : Int)) by (show _ = _; kernel_rfl)) ?_
  rw [hp0]; exact ⟨rfl, (hEw1.trans hEw2)⟩

theorem c_PutRecord (x : Rec)  (w : World) (hp0 : chkR x = 0) :
    Calls Try.prog 30 #[(.agg (recC x).toArray)] w (Ret fun r w' => ∃ a0, r = (.tuple #[(.slice a0 45 45), (.int .i64 ((0 : Nat) : Int))]) ∧ Bs w.heap.size w'.heap.size w' a0 45 45 (recB x) ∧ Ext w w') := by
  refine calls_of (n := 20) (σ := [(0, (.agg (recC x).toArray))]) Try.func30 rfl (by kernel_rfl) ?_
  refine wpC_seq ?_
  refine wpC_region ?_
  refine wpF_step (op_new (d := (some 1)) (s := Instr.box 52 (.agg (recC x).toArray)) (.pointer (some ⟨w.heap.size, 0, none⟩)) (recC x) 52 (by kernel_rfl) (by kernel_rfl) ?_)
  intro w1 hBw1 hEw1
  have hzw1 := hEw1.size; have hlw1 := hBw1.lt
  refine wpF_run 2 [(3, (.int .i64 ((0 : Nat) : Int))), (2, (.slice none 0 0))] (by kernel_rfl) ?_
  refine wpF_end (by kernel_rfl) ?_
  refine then_code ?_
  refine wpC_seq ?_
  refine wpC_seq ?_
  refine wpC_region ?_
  refine wpF_step (op_v (d := (some 5)) (s := Instr.loadAt 52 (.pointer (some ⟨w.heap.size, 0, none⟩))) (v := (.agg (recC x).toArray)) (by kernel_rfl) (rn_lda (vs := recC x) (by kernel_rfl) (by rw [recC_len]; kernel_rfl) (hBw1.all)) ?_)
  refine wpF_step (op_callAt (d := (some 6)) (by kernel_rfl) (c_CheckRecord x _) ?_)
  rintro _ w2 ⟨rfl, hEw2⟩
  have hzw2 := hEw2.size
  refine wpF_run 1 [(4, (.int .i64 ((chkR x : Nat) : Int)))] (by kernel_rfl) ?_
  refine wpF_end (by kernel_rfl) ?_
  refine then_code ?_
  refine wpC_seq ?_
  refine wpC_region ?_
  refine wpF_run 1 [(7, (.int .i64 ((chkR x : Nat) : Int)))] (by kernel_rfl) ?_
  refine wpF_step (op_eqv (d := (some 8)) (.bool ((((chkR x : Nat) : Int) != ((0 : Nat) : Int)))) (.bool false) (by kernel_rfl) (congrArg Value.bool (cmpNeF (by omega))) ?_)
  refine wpF_end (by kernel_rfl) ?_
  refine then_code ?_
  refine wpC_false (by kernel_rfl) ?_
  refine wpC_skip ?_
  refine then_code ?_
  refine wpC_seq ?_
  refine wpC_drawM (Ext w2.drew) 12 [(11, 2, 0), (12, 1024, 1), (13, 2048, 2), (14, 2, 0), (15, 8192, 8), (16, 16384, 16), (17, 2, 0), (18, 65536, 64), (19, 167936, 164), (20, 262144, 288), (3, 524288, 1023), (4, 0, 2047)] (by kernel_rfl) ⟨by kernel_rfl, by kernel_rfl, by kernel_rfl⟩ (fun hT1122 => ?_)
  have hEw3 : Ext w2 w2.drew := Ext.drew w2
  generalize w2.drew = w3 at hEw3 ⊢
  have hzw3 := hEw3.size
  refine anyM_run hT1122 0 1 [(10, (.pointer (some ⟨w.heap.size, 0, none⟩)))] (QPan.then put_panic_bodyPost) (by kernel_rfl) (by kernel_rfl) (show Ext w3 w3 from (Ext.refl _)) (fun _ => by kernel_rfl) ?_
  refine anyM_take hT1122 1 3 (some 11) (.int .u8 ((x.st : Nat) : Int)) (QPan.then put_panic_bodyPost) (by kernel_rfl) (by kernel_rfl) (show Ext w3 w3 from (Ext.refl _)) (yld_val (s := Instr.loadAt 5 (.pointer (some ⟨w.heap.size, 0, none⟩))) (by kernel_rfl) (fun w' hC => rn_ld (by kernel_rfl) (((((hBw1.ext hEw2)).ext hEw3).ext hC).cell rfl))) ?_
  refine anyM_run hT1122 3 11 [(13, (.pointer (some ⟨w.heap.size, 1, none⟩)))] (QPan.then put_panic_bodyPost) (by kernel_rfl) (by kernel_rfl) (show Ext w3 w3 from (Ext.refl _)) (fun _ => by kernel_rfl) ?_
  refine anyM_take hT1122 4 27 (some 14) (.agg (nonC x.non).toArray) (QPan.then put_panic_bodyPost) (by kernel_rfl) (by kernel_rfl) (show Ext w3 w3 from (Ext.refl _)) (yld_val (s := Instr.loadAt 48 (.pointer (some ⟨w.heap.size, 1, none⟩))) (by kernel_rfl) (fun w' hC => rn_lda (vs := nonC x.non) (by kernel_rfl) (by rw [nonC_len]; kernel_rfl) (((((hBw1.ext hEw2)).ext hEw3).ext hC).at 1 (nonC x.non) (rec_non _)))) ?_
  refine anyM_run hT1122 6 91 [(16, (.pointer (some ⟨w.heap.size, 3, none⟩)))] (QPan.then put_panic_bodyPost) (by kernel_rfl) (by kernel_rfl) (show Ext w3 w3 from (Ext.refl _)) (fun _ => by kernel_rfl) ?_
  refine anyM_take hT1122 7 219 (some 17) (.slice (some ⟨w.heap.size, 3, none⟩) 32 32) (QPan.then put_panic_bodyPost) (by kernel_rfl) (by kernel_rfl) (show Ext w3 w3 from (Ext.refl _)) (yld_val (s := Instr.sliceAt 50 (.pointer (some ⟨w.heap.size, 3, none⟩)) none none none) (by kernel_rfl) (fun w' hC => rn_sla (E := 5) (sz := 1) (m := 32) (by kernel_rfl) (by kernel_rfl))) ?_
  have hS1 : Bs w.heap.size (w.heap.size + 1) w3 (some ⟨w.heap.size, 3, none⟩) 32 32 x.tag.l := Bs.of_at ((((hBw1.ext hEw2)).ext hEw3).at 3 (digC x.tag) (rec_tag _)) ((((hBw1.ext hEw2)).ext hEw3)).lt x.tag.h.symm (by decide) (by omega) (by omega)
  refine anyM_two 2 5 223 251 (by kernel_rfl) (by kernel_rfl) (by kernel_rfl) ?_ ?_
  · refine op_new (d := (some 12)) (s := Instr.buildSlice 23 1 #[(0, (.int .u8 ((x.st : Nat) : Int)))]) (.slice (some ⟨w3.heap.size, 0, none⟩) 1 1) [(.int .u8 ((x.st : Nat) : Int))] 5 (by kernel_rfl) (by kernel_rfl) ?_
    intro w4 hBw4 hEw4
    have hzw4 := hEw4.size; have hlw4 := hBw4.lt
    have hSw4 : Bs w3.heap.size (w3.heap.size + 1) w4 (some ⟨w3.heap.size, 0, none⟩) 1 1 [UInt8.ofNat x.st] := Bs.of_blk hBw4 (u8s_sing x.hst) rfl (Nat.le_refl _) (by decide) (Nat.le_refl _) (Nat.lt_succ_self _)
    refine ⟨.inr hEw4, ?_⟩
    refine anyM_one 5 255 (by kernel_rfl) (by kernel_rfl) (op_callAt (d := (some 15)) (by kernel_rfl) (c_noncePut x.non _) ?_)
    rintro _ w5 ⟨a1, rfl, hFz2_0, hEw5⟩
    have hzw5 := hEw5.size
    refine ⟨.inr (hEw4.trans hEw5), ?_⟩
    refine anyM_one 8 511 (by kernel_rfl) (by kernel_rfl) (op_new (d := (some 18)) (s := Instr.buildSlice 84 3 #[(0, (.slice (some ⟨w3.heap.size, 0, none⟩) 1 1)), (1, (.slice a1 12 12)), (2, (.slice (some ⟨w.heap.size, 3, none⟩) 32 32))]) (.slice (some ⟨w5.heap.size, 0, none⟩) 3 3) [(.slice (some ⟨w3.heap.size, 0, none⟩) 1 1), (.slice a1 12 12), (.slice (some ⟨w.heap.size, 3, none⟩) 32 32)] 23 (by kernel_rfl) (by kernel_rfl) ?_)
    intro w6 hBw6 hEw6
    have hzw6 := hEw6.size; have hlw6 := hBw6.lt
    have hSw6 : Ps 0 w6.heap.size w6 (some ⟨w5.heap.size, 0, none⟩) 3 3 [(.slice (some ⟨w3.heap.size, 0, none⟩) 1 1), (.slice a1 12 12), (.slice (some ⟨w.heap.size, 3, none⟩) 32 32)] [[UInt8.ofNat x.st], nonB x.non, x.tag.l] := Ps.of_new hBw6 rfl (by decide) (Parts.cons (Part.at (((hSw4.ext hEw5)).ext hEw6)) (Parts.cons (Part.at (hFz2_0.ext hEw6)) (Parts.cons (Part.at (((((hS1.ext hEw4)).ext hEw5)).ext hEw6)) Parts.nil)))
    refine ⟨.inr ((hEw4.trans hEw5).trans hEw6), ?_⟩
    refine anyM_one 9 1023 (by kernel_rfl) (by kernel_rfl) (op_callAt (d := (some 19)) (by kernel_rfl) (c_Join _ hSw6 (by simp [sumLen, nonB, x.tag.h])) ?_)
    rintro _ w7 ⟨a2, rfl, hFz3_0, hFz3_1, hFz3_2, hFz3_3, hEw7⟩
    have hzw7 := hEw7.size
    have hla2 := hFz3_1.lt; have hna2 := hFz3_3
    have hSa2 : Bs a2 (a2 + 1) w7 (some ⟨a2, 0, none⟩) (sumLen ([[UInt8.ofNat x.st], nonB x.non, x.tag.l])) (sumLen ([[UInt8.ofNat x.st], nonB x.non, x.tag.l])) (([[UInt8.ofNat x.st], nonB x.non, x.tag.l]).flatten) := Bs.of_blk hFz3_1 rfl hFz3_2 (Nat.le_refl _) (le_maxLen hna2) (Nat.le_refl _) (Nat.lt_succ_self _)
    rw [show sumLen ([[UInt8.ofNat x.st], nonB x.non, x.tag.l]) = 45 from by simp [sumLen, nonB, x.tag.h]]
    refine ⟨.inr (((hEw4.trans hEw5).trans hEw6).trans hEw7), ?_⟩
    refine anyM_run hT1122 10 2047 [(2, (.slice (some ⟨a2, 0, none⟩) 45 45))] (QPan.then put_panic_bodyPost) (by kernel_rfl) (by kernel_rfl) (show Ext w3 w7 from (((hEw4.trans hEw5).trans hEw6).trans hEw7)) (fun _ => by kernel_rfl) ?_
    refine anyM_run hT1122 11 4095 [(3, (.int .i64 ((0 : Nat) : Int)))] (QPan.then put_panic_bodyPost) (by kernel_rfl) (by kernel_rfl) (show Ext w3 w7 from (((hEw4.trans hEw5).trans hEw6).trans hEw7)) (fun _ => by kernel_rfl) ?_
    refine anyM_done (by kernel_rfl) ?_
    refine then_code ?_
    refine wpC_ret ?_
    refine body_ret2 (by kernel_rfl) (show resVal Try.prog 20 _ _ (.tmp 2) (.slice (some ⟨a2, 0, none⟩) 45 45) by (show _ = _; kernel_rfl)) (show resVal Try.prog 20 _ _ (.tmp 3) (.int .i64 ((0 : Nat) : Int)) by (show _ = _; kernel_rfl)) ?_
    have hz := hSa2
    rw [show sumLen ([[UInt8.ofNat x.st], nonB x.non, x.tag.l]) = 45 from by simp [sumLen, nonB, x.tag.h], show ([[UInt8.ofNat x.st], nonB x.non, x.tag.l]).flatten = recB x from by simp [recB, entB, celB]] at hz
    exact ⟨_, rfl, hz.mono (by omega) (by omega), ((((((hEw1.trans hEw2).trans hEw3).trans hEw4).trans hEw5).trans hEw6).trans hEw7)⟩
  · refine op_callAt (d := (some 15)) (by kernel_rfl) (c_noncePut x.non _) ?_
    rintro _ w8 ⟨a3, rfl, hFz4_0, hEw8⟩
    have hzw8 := hEw8.size
    refine ⟨.inr hEw8, ?_⟩
    refine anyM_one 2 255 (by kernel_rfl) (by kernel_rfl) (op_new (d := (some 12)) (s := Instr.buildSlice 23 1 #[(0, (.int .u8 ((x.st : Nat) : Int)))]) (.slice (some ⟨w8.heap.size, 0, none⟩) 1 1) [(.int .u8 ((x.st : Nat) : Int))] 5 (by kernel_rfl) (by kernel_rfl) ?_)
    intro w9 hBw9 hEw9
    have hzw9 := hEw9.size; have hlw9 := hBw9.lt
    have hSw9 : Bs w8.heap.size (w8.heap.size + 1) w9 (some ⟨w8.heap.size, 0, none⟩) 1 1 [UInt8.ofNat x.st] := Bs.of_blk hBw9 (u8s_sing x.hst) rfl (Nat.le_refl _) (by decide) (Nat.le_refl _) (Nat.lt_succ_self _)
    refine ⟨.inr (hEw8.trans hEw9), ?_⟩
    refine anyM_one 8 511 (by kernel_rfl) (by kernel_rfl) (op_new (d := (some 18)) (s := Instr.buildSlice 84 3 #[(0, (.slice (some ⟨w8.heap.size, 0, none⟩) 1 1)), (1, (.slice a3 12 12)), (2, (.slice (some ⟨w.heap.size, 3, none⟩) 32 32))]) (.slice (some ⟨w9.heap.size, 0, none⟩) 3 3) [(.slice (some ⟨w8.heap.size, 0, none⟩) 1 1), (.slice a3 12 12), (.slice (some ⟨w.heap.size, 3, none⟩) 32 32)] 23 (by kernel_rfl) (by kernel_rfl) ?_)
    intro w10 hBw10 hEw10
    have hzw10 := hEw10.size; have hlw10 := hBw10.lt
    have hSw10 : Ps 0 w10.heap.size w10 (some ⟨w9.heap.size, 0, none⟩) 3 3 [(.slice (some ⟨w8.heap.size, 0, none⟩) 1 1), (.slice a3 12 12), (.slice (some ⟨w.heap.size, 3, none⟩) 32 32)] [[UInt8.ofNat x.st], nonB x.non, x.tag.l] := Ps.of_new hBw10 rfl (by decide) (Parts.cons (Part.at (hSw9.ext hEw10)) (Parts.cons (Part.at (((hFz4_0.ext hEw9)).ext hEw10)) (Parts.cons (Part.at (((((hS1.ext hEw8)).ext hEw9)).ext hEw10)) Parts.nil)))
    refine ⟨.inr ((hEw8.trans hEw9).trans hEw10), ?_⟩
    refine anyM_one 9 1023 (by kernel_rfl) (by kernel_rfl) (op_callAt (d := (some 19)) (by kernel_rfl) (c_Join _ hSw10 (by simp [sumLen, nonB, x.tag.h])) ?_)
    rintro _ w11 ⟨a4, rfl, hFz5_0, hFz5_1, hFz5_2, hFz5_3, hEw11⟩
    have hzw11 := hEw11.size
    have hla4 := hFz5_1.lt; have hna4 := hFz5_3
    have hSa4 : Bs a4 (a4 + 1) w11 (some ⟨a4, 0, none⟩) (sumLen ([[UInt8.ofNat x.st], nonB x.non, x.tag.l])) (sumLen ([[UInt8.ofNat x.st], nonB x.non, x.tag.l])) (([[UInt8.ofNat x.st], nonB x.non, x.tag.l]).flatten) := Bs.of_blk hFz5_1 rfl hFz5_2 (Nat.le_refl _) (le_maxLen hna4) (Nat.le_refl _) (Nat.lt_succ_self _)
    rw [show sumLen ([[UInt8.ofNat x.st], nonB x.non, x.tag.l]) = 45 from by simp [sumLen, nonB, x.tag.h]]
    refine ⟨.inr (((hEw8.trans hEw9).trans hEw10).trans hEw11), ?_⟩
    refine anyM_run hT1122 10 2047 [(2, (.slice (some ⟨a4, 0, none⟩) 45 45))] (QPan.then put_panic_bodyPost) (by kernel_rfl) (by kernel_rfl) (show Ext w3 w11 from (((hEw8.trans hEw9).trans hEw10).trans hEw11)) (fun _ => by kernel_rfl) ?_
    refine anyM_run hT1122 11 4095 [(3, (.int .i64 ((0 : Nat) : Int)))] (QPan.then put_panic_bodyPost) (by kernel_rfl) (by kernel_rfl) (show Ext w3 w11 from (((hEw8.trans hEw9).trans hEw10).trans hEw11)) (fun _ => by kernel_rfl) ?_
    refine anyM_done (by kernel_rfl) ?_
    refine then_code ?_
    refine wpC_ret ?_
    refine body_ret2 (by kernel_rfl) (show resVal Try.prog 20 _ _ (.tmp 2) (.slice (some ⟨a4, 0, none⟩) 45 45) by (show _ = _; kernel_rfl)) (show resVal Try.prog 20 _ _ (.tmp 3) (.int .i64 ((0 : Nat) : Int)) by (show _ = _; kernel_rfl)) ?_
    have hz := hSa4
    rw [show sumLen ([[UInt8.ofNat x.st], nonB x.non, x.tag.l]) = 45 from by simp [sumLen, nonB, x.tag.h], show ([[UInt8.ofNat x.st], nonB x.non, x.tag.l]).flatten = recB x from by simp [recB, entB, celB]] at hz
    exact ⟨_, rfl, hz.mono (by omega) (by omega), ((((((hEw1.trans hEw2).trans hEw3).trans hEw8).trans hEw9).trans hEw10).trans hEw11)⟩

theorem c_PutEntryBad (x : Ent)  (w : World) (hp0 : chkE x = 1) :
    Calls Try.prog 37 #[(.agg (entC x).toArray)] w (Ret fun r w' => r = (.tuple #[(.slice none 0 0), (.int .i64 ((1 : Nat) : Int))]) ∧ Ext w w') := by
  refine calls_of (n := 17) (σ := [(0, (.agg (entC x).toArray))]) Try.func37 rfl (by kernel_rfl) ?_
  refine wpC_seq ?_
  refine wpC_region ?_
  refine wpF_step (op_new (d := (some 1)) (s := Instr.box 61 (.agg (entC x).toArray)) (.pointer (some ⟨w.heap.size, 0, none⟩)) (entC x) 61 (by kernel_rfl) (by kernel_rfl) ?_)
  intro w1 hBw1 hEw1
  have hzw1 := hEw1.size; have hlw1 := hBw1.lt
  refine wpF_run 2 [(3, (.int .i64 ((0 : Nat) : Int))), (2, (.slice none 0 0))] (by kernel_rfl) ?_
  refine wpF_end (by kernel_rfl) ?_
  refine then_code ?_
  refine wpC_seq ?_
  refine wpC_seq ?_
  refine wpC_region ?_
  refine wpF_step (op_v (d := (some 5)) (s := Instr.loadAt 61 (.pointer (some ⟨w.heap.size, 0, none⟩))) (v := (.agg (entC x).toArray)) (by kernel_rfl) (rn_lda (vs := entC x) (by kernel_rfl) (by rw [entC_len]; kernel_rfl) (hBw1.all)) ?_)
  refine wpF_step (op_callAt (d := (some 6)) (by kernel_rfl) (c_CheckEntry x _) ?_)
  rintro _ w2 ⟨rfl, hEw2⟩
  have hzw2 := hEw2.size
  refine wpF_run 1 [(4, (.int .i64 ((chkE x : Nat) : Int)))] (by kernel_rfl) ?_
  refine wpF_end (by kernel_rfl) ?_
  refine then_code ?_
  refine wpC_seq ?_
  refine wpC_region ?_
  refine wpF_run 1 [(7, (.int .i64 ((chkE x : Nat) : Int)))] (by kernel_rfl) ?_
  refine wpF_step (op_eqv (d := (some 8)) (.bool ((((chkE x : Nat) : Int) != ((0 : Nat) : Int)))) (.bool true) (by kernel_rfl) (congrArg Value.bool (cmpNeT (by omega))) ?_)
  refine wpF_end (by kernel_rfl) ?_
  refine then_code ?_
  refine wpC_true (by kernel_rfl) ?_
  refine wpC_seq ?_
  refine wpC_region ?_
  refine wpF_run 3 [(3, (.int .i64 ((chkE x : Nat) : Int))), (2, (.slice none 0 0)), (9, (.int .i64 ((chkE x : Nat) : Int)))] (by kernel_rfl) ?_
  refine wpF_end (by kernel_rfl) ?_
  refine then_code ?_
  refine wpC_ret ?_
  refine then_ret ?_
  refine body_ret2 (by kernel_rfl) (show resVal Try.prog 17 _ _ (.tmp 2) (.slice none 0 0) by (show _ = _; kernel_rfl)) (show resVal Try.prog 17 _ _ (.tmp 3) (.int .i64 ((chkE x : Nat) : Int)) by (show _ = _; kernel_rfl)) ?_
  rw [hp0]; exact ⟨rfl, (hEw1.trans hEw2)⟩

theorem c_PutEntry (x : Ent)  (w : World) (hp0 : chkE x = 0) :
    Calls Try.prog 37 #[(.agg (entC x).toArray)] w (Ret fun r w' => ∃ a0, r = (.tuple #[(.slice a0 33 33), (.int .i64 ((0 : Nat) : Int))]) ∧ Bs w.heap.size w'.heap.size w' a0 33 33 (entB x) ∧ Ext w w') := by
  refine calls_of (n := 17) (σ := [(0, (.agg (entC x).toArray))]) Try.func37 rfl (by kernel_rfl) ?_
  refine wpC_seq ?_
  refine wpC_region ?_
  refine wpF_step (op_new (d := (some 1)) (s := Instr.box 61 (.agg (entC x).toArray)) (.pointer (some ⟨w.heap.size, 0, none⟩)) (entC x) 61 (by kernel_rfl) (by kernel_rfl) ?_)
  intro w1 hBw1 hEw1
  have hzw1 := hEw1.size; have hlw1 := hBw1.lt
  refine wpF_run 2 [(3, (.int .i64 ((0 : Nat) : Int))), (2, (.slice none 0 0))] (by kernel_rfl) ?_
  refine wpF_end (by kernel_rfl) ?_
  refine then_code ?_
  refine wpC_seq ?_
  refine wpC_seq ?_
  refine wpC_region ?_
  refine wpF_step (op_v (d := (some 5)) (s := Instr.loadAt 61 (.pointer (some ⟨w.heap.size, 0, none⟩))) (v := (.agg (entC x).toArray)) (by kernel_rfl) (rn_lda (vs := entC x) (by kernel_rfl) (by rw [entC_len]; kernel_rfl) (hBw1.all)) ?_)
  refine wpF_step (op_callAt (d := (some 6)) (by kernel_rfl) (c_CheckEntry x _) ?_)
  rintro _ w2 ⟨rfl, hEw2⟩
  have hzw2 := hEw2.size
  refine wpF_run 1 [(4, (.int .i64 ((chkE x : Nat) : Int)))] (by kernel_rfl) ?_
  refine wpF_end (by kernel_rfl) ?_
  refine then_code ?_
  refine wpC_seq ?_
  refine wpC_region ?_
  refine wpF_run 1 [(7, (.int .i64 ((chkE x : Nat) : Int)))] (by kernel_rfl) ?_
  refine wpF_step (op_eqv (d := (some 8)) (.bool ((((chkE x : Nat) : Int) != ((0 : Nat) : Int)))) (.bool false) (by kernel_rfl) (congrArg Value.bool (cmpNeF (by omega))) ?_)
  refine wpF_end (by kernel_rfl) ?_
  refine then_code ?_
  refine wpC_false (by kernel_rfl) ?_
  refine wpC_skip ?_
  refine then_code ?_
  refine wpC_seq ?_
  refine wpC_drawM (Ext w2.drew) 9 [(11, 2, 0), (12, 1024, 1), (13, 2048, 2), (14, 2, 0), (15, 8192, 8), (16, 20480, 20), (17, 32768, 32), (3, 65536, 127), (4, 0, 255)] (by kernel_rfl) ⟨by kernel_rfl, by kernel_rfl, by kernel_rfl⟩ (fun hT1264 => ?_)
  have hEw3 : Ext w2 w2.drew := Ext.drew w2
  generalize w2.drew = w3 at hEw3 ⊢
  have hzw3 := hEw3.size
  refine anyM_run hT1264 0 1 [(10, (.pointer (some ⟨w.heap.size, 0, none⟩)))] (QPan.then put_panic_bodyPost) (by kernel_rfl) (by kernel_rfl) (show Ext w3 w3 from (Ext.refl _)) (fun _ => by kernel_rfl) ?_
  refine anyM_take hT1264 1 3 (some 11) (.int .u8 ((x.st : Nat) : Int)) (QPan.then put_panic_bodyPost) (by kernel_rfl) (by kernel_rfl) (show Ext w3 w3 from (Ext.refl _)) (yld_val (s := Instr.loadAt 5 (.pointer (some ⟨w.heap.size, 0, none⟩))) (by kernel_rfl) (fun w' hC => rn_ld (by kernel_rfl) (((((hBw1.ext hEw2)).ext hEw3).ext hC).cell rfl))) ?_
  refine anyM_run hT1264 3 11 [(13, (.pointer (some ⟨w.heap.size, 1, none⟩)))] (QPan.then put_panic_bodyPost) (by kernel_rfl) (by kernel_rfl) (show Ext w3 w3 from (Ext.refl _)) (fun _ => by kernel_rfl) ?_
  refine anyM_take hT1264 4 27 (some 14) (.slice (some ⟨w.heap.size, 1, none⟩) 32 32) (QPan.then put_panic_bodyPost) (by kernel_rfl) (by kernel_rfl) (show Ext w3 w3 from (Ext.refl _)) (yld_val (s := Instr.sliceAt 50 (.pointer (some ⟨w.heap.size, 1, none⟩)) none none none) (by kernel_rfl) (fun w' hC => rn_sla (E := 5) (sz := 1) (m := 32) (by kernel_rfl) (by kernel_rfl))) ?_
  have hS1 : Bs w.heap.size (w.heap.size + 1) w3 (some ⟨w.heap.size, 1, none⟩) 32 32 x.dg.l := Bs.of_at ((((hBw1.ext hEw2)).ext hEw3).at 1 (digC x.dg) (ent_dg _)) ((((hBw1.ext hEw2)).ext hEw3)).lt x.dg.h.symm (by decide) (by omega) (by omega)
  refine anyM_one 2 31 (by kernel_rfl) (by kernel_rfl) (op_new (d := (some 12)) (s := Instr.buildSlice 23 1 #[(0, (.int .u8 ((x.st : Nat) : Int)))]) (.slice (some ⟨w3.heap.size, 0, none⟩) 1 1) [(.int .u8 ((x.st : Nat) : Int))] 5 (by kernel_rfl) (by kernel_rfl) ?_)
  intro w4 hBw4 hEw4
  have hzw4 := hEw4.size; have hlw4 := hBw4.lt
  have hSw4 : Bs w3.heap.size (w3.heap.size + 1) w4 (some ⟨w3.heap.size, 0, none⟩) 1 1 [UInt8.ofNat x.st] := Bs.of_blk hBw4 (u8s_sing x.hst) rfl (Nat.le_refl _) (by decide) (Nat.le_refl _) (Nat.lt_succ_self _)
  refine ⟨.inr hEw4, ?_⟩
  refine anyM_one 5 63 (by kernel_rfl) (by kernel_rfl) (op_new (d := (some 15)) (s := Instr.buildSlice 84 2 #[(0, (.slice (some ⟨w3.heap.size, 0, none⟩) 1 1)), (1, (.slice (some ⟨w.heap.size, 1, none⟩) 32 32))]) (.slice (some ⟨w4.heap.size, 0, none⟩) 2 2) [(.slice (some ⟨w3.heap.size, 0, none⟩) 1 1), (.slice (some ⟨w.heap.size, 1, none⟩) 32 32)] 23 (by kernel_rfl) (by kernel_rfl) ?_)
  intro w5 hBw5 hEw5
  have hzw5 := hEw5.size; have hlw5 := hBw5.lt
  have hSw5 : Ps 0 w5.heap.size w5 (some ⟨w4.heap.size, 0, none⟩) 2 2 [(.slice (some ⟨w3.heap.size, 0, none⟩) 1 1), (.slice (some ⟨w.heap.size, 1, none⟩) 32 32)] [[UInt8.ofNat x.st], x.dg.l] := Ps.of_new hBw5 rfl (by decide) (Parts.cons (Part.at (hSw4.ext hEw5)) (Parts.cons (Part.at (((hS1.ext hEw4)).ext hEw5)) Parts.nil))
  refine ⟨.inr (hEw4.trans hEw5), ?_⟩
  refine anyM_one 6 127 (by kernel_rfl) (by kernel_rfl) (op_callAt (d := (some 16)) (by kernel_rfl) (c_Join _ hSw5 (by simp [sumLen, nonB, x.dg.h])) ?_)
  rintro _ w6 ⟨a1, rfl, hFz2_0, hFz2_1, hFz2_2, hFz2_3, hEw6⟩
  have hzw6 := hEw6.size
  have hla1 := hFz2_1.lt; have hna1 := hFz2_3
  have hSa1 : Bs a1 (a1 + 1) w6 (some ⟨a1, 0, none⟩) (sumLen ([[UInt8.ofNat x.st], x.dg.l])) (sumLen ([[UInt8.ofNat x.st], x.dg.l])) (([[UInt8.ofNat x.st], x.dg.l]).flatten) := Bs.of_blk hFz2_1 rfl hFz2_2 (Nat.le_refl _) (le_maxLen hna1) (Nat.le_refl _) (Nat.lt_succ_self _)
  rw [show sumLen ([[UInt8.ofNat x.st], x.dg.l]) = 33 from by simp [sumLen, nonB, x.dg.h]]
  refine ⟨.inr ((hEw4.trans hEw5).trans hEw6), ?_⟩
  refine anyM_run hT1264 7 255 [(2, (.slice (some ⟨a1, 0, none⟩) 33 33))] (QPan.then put_panic_bodyPost) (by kernel_rfl) (by kernel_rfl) (show Ext w3 w6 from ((hEw4.trans hEw5).trans hEw6)) (fun _ => by kernel_rfl) ?_
  refine anyM_run hT1264 8 511 [(3, (.int .i64 ((0 : Nat) : Int)))] (QPan.then put_panic_bodyPost) (by kernel_rfl) (by kernel_rfl) (show Ext w3 w6 from ((hEw4.trans hEw5).trans hEw6)) (fun _ => by kernel_rfl) ?_
  refine anyM_done (by kernel_rfl) ?_
  refine then_code ?_
  refine wpC_ret ?_
  refine body_ret2 (by kernel_rfl) (show resVal Try.prog 17 _ _ (.tmp 2) (.slice (some ⟨a1, 0, none⟩) 33 33) by (show _ = _; kernel_rfl)) (show resVal Try.prog 17 _ _ (.tmp 3) (.int .i64 ((0 : Nat) : Int)) by (show _ = _; kernel_rfl)) ?_
  have hz := hSa1
  rw [show sumLen ([[UInt8.ofNat x.st], x.dg.l]) = 33 from by simp [sumLen, nonB, x.dg.h], show ([[UInt8.ofNat x.st], x.dg.l]).flatten = entB x from by simp [recB, entB, celB]] at hz
  exact ⟨_, rfl, hz.mono (by omega) (by omega), (((((hEw1.trans hEw2).trans hEw3).trans hEw4).trans hEw5).trans hEw6)⟩

theorem c_PutCell (x : Cel)  (w : World)  :
    Calls Try.prog 43 #[(.agg (celC x).toArray)] w (Ret fun r w' => ∃ a0, r = (.slice a0 48 48) ∧ Bs w.heap.size w'.heap.size w' a0 48 48 (celB x) ∧ Ext w w') := by
  refine calls_of (n := 13) (σ := [(0, (.agg (celC x).toArray))]) Try.func43 rfl (by kernel_rfl) ?_
  refine wpC_seq ?_
  refine wpC_region ?_
  refine wpF_step (op_new (d := (some 1)) (s := Instr.box 75 (.agg (celC x).toArray)) (.pointer (some ⟨w.heap.size, 0, none⟩)) (celC x) 75 (by kernel_rfl) (by kernel_rfl) ?_)
  intro w1 hBw1 hEw1
  have hzw1 := hEw1.size; have hlw1 := hBw1.lt
  refine wpF_run 1 [(2, (.slice none 0 0))] (by kernel_rfl) ?_
  refine wpF_end (by kernel_rfl) ?_
  refine then_code ?_
  refine wpC_seq ?_
  refine wpC_drawM (Ext w1.drew) 11 [(4, 2, 0), (5, 8, 1), (6, 2, 0), (7, 32, 4), (8, 64, 8), (9, 2, 0), (10, 256, 32), (11, 512, 80), (12, 1168, 146), (13, 2048, 384), (3, 4096, 1023)] (by kernel_rfl) ⟨by kernel_rfl, by kernel_rfl, by kernel_rfl⟩ (fun hT1312 => ?_)
  have hEw2 : Ext w1 w1.drew := Ext.drew w1
  generalize w1.drew = w2 at hEw2 ⊢
  have hzw2 := hEw2.size
  refine anyM_run hT1312 0 1 [(3, (.pointer (some ⟨w.heap.size, 0, none⟩)))] (QPan.then put_panic_bodyPost) (by kernel_rfl) (by kernel_rfl) (show Ext w2 w2 from (Ext.refl _)) (fun _ => by kernel_rfl) ?_
  refine anyM_take hT1312 1 3 (some 4) (.slice (some ⟨w.heap.size, 0, none⟩) 32 32) (QPan.then put_panic_bodyPost) (by kernel_rfl) (by kernel_rfl) (show Ext w2 w2 from (Ext.refl _)) (yld_val (s := Instr.sliceAt 50 (.pointer (some ⟨w.heap.size, 0, none⟩)) none none none) (by kernel_rfl) (fun w' hC => rn_sla (E := 5) (sz := 1) (m := 32) (by kernel_rfl) (by kernel_rfl))) ?_
  have hS1 : Bs w.heap.size (w.heap.size + 1) w2 (some ⟨w.heap.size, 0, none⟩) 32 32 x.root.l := Bs.of_at ((hBw1.ext hEw2).at 0 (digC x.root) (cel_root _)) ((hBw1.ext hEw2)).lt x.root.h.symm (by decide) (by omega) (by omega)
  refine anyM_run hT1312 2 7 [(5, (.pointer (some ⟨w.heap.size, 32, none⟩)))] (QPan.then put_panic_bodyPost) (by kernel_rfl) (by kernel_rfl) (show Ext w2 w2 from (Ext.refl _)) (fun _ => by kernel_rfl) ?_
  refine anyM_take hT1312 3 15 (some 6) (.int .u64 ((x.ep : Nat) : Int)) (QPan.then put_panic_bodyPost) (by kernel_rfl) (by kernel_rfl) (show Ext w2 w2 from (Ext.refl _)) (yld_val (s := Instr.loadAt 22 (.pointer (some ⟨w.heap.size, 32, none⟩))) (by kernel_rfl) (fun w' hC => rn_ld (by kernel_rfl) (((hBw1.ext hEw2).ext hC).cell (cel_ep _)))) ?_
  refine anyM_run hT1312 5 47 [(8, (.pointer (some ⟨w.heap.size, 33, none⟩)))] (QPan.then put_panic_bodyPost) (by kernel_rfl) (by kernel_rfl) (show Ext w2 w2 from (Ext.refl _)) (fun _ => by kernel_rfl) ?_
  refine anyM_take hT1312 6 111 (some 9) (.int .u64 ((x.mark : Nat) : Int)) (QPan.then put_panic_bodyPost) (by kernel_rfl) (by kernel_rfl) (show Ext w2 w2 from (Ext.refl _)) (yld_val (s := Instr.loadAt 22 (.pointer (some ⟨w.heap.size, 33, none⟩))) (by kernel_rfl) (fun w' hC => rn_ld (by kernel_rfl) (((hBw1.ext hEw2).ext hC).cell (cel_mk _)))) ?_
  refine anyM_one 4 127 (by kernel_rfl) (by kernel_rfl) (op_callAt (d := (some 7)) (by kernel_rfl) (c_Put64 x.ep _) ?_)
  rintro _ w3 ⟨a1, rfl, hFz1_0, hEw3⟩
  have hzw3 := hEw3.size
  refine ⟨.inr hEw3, ?_⟩
  refine anyM_one 7 255 (by kernel_rfl) (by kernel_rfl) (op_callAt (d := (some 10)) (by kernel_rfl) (c_Put64 x.mark _) ?_)
  rintro _ w4 ⟨a2, rfl, hFz2_0, hEw4⟩
  have hzw4 := hEw4.size
  refine ⟨.inr (hEw3.trans hEw4), ?_⟩
  refine anyM_one 8 511 (by kernel_rfl) (by kernel_rfl) (op_new (d := (some 11)) (s := Instr.buildSlice 84 3 #[(0, (.slice (some ⟨w.heap.size, 0, none⟩) 32 32)), (1, (.slice a1 8 8)), (2, (.slice a2 8 8))]) (.slice (some ⟨w4.heap.size, 0, none⟩) 3 3) [(.slice (some ⟨w.heap.size, 0, none⟩) 32 32), (.slice a1 8 8), (.slice a2 8 8)] 23 (by kernel_rfl) (by kernel_rfl) ?_)
  intro w5 hBw5 hEw5
  have hzw5 := hEw5.size; have hlw5 := hBw5.lt
  have hSw5 : Ps 0 w5.heap.size w5 (some ⟨w4.heap.size, 0, none⟩) 3 3 [(.slice (some ⟨w.heap.size, 0, none⟩) 32 32), (.slice a1 8 8), (.slice a2 8 8)] [x.root.l, be x.ep 8, be x.mark 8] := Ps.of_new hBw5 rfl (by decide) (Parts.cons (Part.at (((((hS1.ext hEw3)).ext hEw4)).ext hEw5)) (Parts.cons (Part.at (((hFz1_0.ext hEw4)).ext hEw5)) (Parts.cons (Part.at (hFz2_0.ext hEw5)) Parts.nil)))
  refine ⟨.inr ((hEw3.trans hEw4).trans hEw5), ?_⟩
  refine anyM_one 9 1023 (by kernel_rfl) (by kernel_rfl) (op_callAt (d := (some 12)) (by kernel_rfl) (c_Join _ hSw5 (by simp [sumLen, nonB, x.root.h])) ?_)
  rintro _ w6 ⟨a3, rfl, hFz3_0, hFz3_1, hFz3_2, hFz3_3, hEw6⟩
  have hzw6 := hEw6.size
  have hla3 := hFz3_1.lt; have hna3 := hFz3_3
  have hSa3 : Bs a3 (a3 + 1) w6 (some ⟨a3, 0, none⟩) (sumLen ([x.root.l, be x.ep 8, be x.mark 8])) (sumLen ([x.root.l, be x.ep 8, be x.mark 8])) (([x.root.l, be x.ep 8, be x.mark 8]).flatten) := Bs.of_blk hFz3_1 rfl hFz3_2 (Nat.le_refl _) (le_maxLen hna3) (Nat.le_refl _) (Nat.lt_succ_self _)
  rw [show sumLen ([x.root.l, be x.ep 8, be x.mark 8]) = 48 from by simp [sumLen, nonB, x.root.h]]
  refine ⟨.inr (((hEw3.trans hEw4).trans hEw5).trans hEw6), ?_⟩
  refine anyM_run hT1312 10 2047 [(2, (.slice (some ⟨a3, 0, none⟩) 48 48))] (QPan.then put_panic_bodyPost) (by kernel_rfl) (by kernel_rfl) (show Ext w2 w6 from (((hEw3.trans hEw4).trans hEw5).trans hEw6)) (fun _ => by kernel_rfl) ?_
  refine anyM_done (by kernel_rfl) ?_
  refine then_code ?_
  refine wpC_ret ?_
  refine body_ret1 (by kernel_rfl) (show resVal Try.prog 13 _ _ (.tmp 2) (.slice (some ⟨a3, 0, none⟩) 48 48) by (show _ = _; kernel_rfl)) ?_
  have hz := hSa3
  rw [show sumLen ([x.root.l, be x.ep 8, be x.mark 8]) = 48 from by simp [sumLen, nonB, x.root.h], show ([x.root.l, be x.ep 8, be x.mark 8]).flatten = celB x from by simp [recB, entB, celB]] at hz
  exact ⟨_, rfl, hz.mono (by omega) (by omega), (((((hEw1.trans hEw2).trans hEw3).trans hEw4).trans hEw5).trans hEw6)⟩

end Go.Proofs.Ytigeaknjhnichaa
