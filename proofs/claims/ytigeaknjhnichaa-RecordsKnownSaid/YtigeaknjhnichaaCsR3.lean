/- CsR3: what each function does, by its own code. No condition beyond those of each statement. -/
import Derived.Test.YtigeaknjhnichaaCsR2
namespace Go.Proofs.Ytigeaknjhnichaa
open Go Go.RowKit Go.Cs
set_option maxRecDepth 100000
set_option linter.all false
set_option linter.unusedVariables false

theorem c_GetCellShort {lo_l hi_l : Nat} {a_l : Option Addr} {n_l c_l : Nat} {l : List UInt8}  (w : World) (h_l : Bs lo_l hi_l w a_l n_l c_l l) (hp0 : n_l < 48) :
    Calls Try.prog 44 #[(.slice a_l n_l c_l)] w (Ret fun r w' => r = (.tuple #[(.agg (celC Cel.zero).toArray), (.int .i64 ((6 : Nat) : Int))]) ∧ Ext w w') := by
  refine calls_of (n := 40) (σ := [(0, (.slice a_l n_l c_l))]) Try.func44 rfl (by kernel_rfl) ?_
  replace h_l := h_l.now; have hle_l := h_l.le
  refine wpC_seq ?_
  refine wpC_region ?_
  refine wpF_step (op_new (d := (some 2)) (s := Instr.alloc 75 true (.tuple #[])) (.pointer (some ⟨w.heap.size, 0, none⟩)) (celC Cel.zero) 75 (by kernel_rfl) (by kernel_rfl) ?_)
  intro w1 hBw1 hEw1
  have hzw1 := hEw1.size; have hlw1 := hBw1.lt
  refine wpF_run 1 [(3, (.int .i64 ((0 : Nat) : Int)))] (by kernel_rfl) ?_
  refine wpF_end (by kernel_rfl) ?_
  refine then_code ?_
  refine wpC_seq ?_
  refine wpC_region ?_
  refine wpF_run 1 [(12, (.slice a_l n_l c_l))] (by kernel_rfl) ?_
  refine wpF_step (op_callAt (d := (some 13)) (by kernel_rfl) (c_readShort 48 _ (h_l.ext hEw1) (by omega)) ?_)
  rintro _ w2 ⟨rfl, hEw2⟩
  have hzw2 := hEw2.size
  refine wpF_run 5 [(5, (.int .i64 ((6 : Nat) : Int))), (4, .nilFunc), (15, (.int .i64 ((6 : Nat) : Int))), (14, .nilFunc), (11, (.tuple #[.nilFunc, (.int .i64 ((6 : Nat) : Int))]))] (by kernel_rfl) ?_
  refine wpF_end (by kernel_rfl) ?_
  refine then_code ?_
  refine wpC_seq ?_
  refine wpC_seq ?_
  refine wpC_region ?_
  refine wpF_run 2 [(17, (.bool true)), (16, (.int .i64 ((6 : Nat) : Int)))] (by kernel_rfl) ?_
  refine wpF_end (by kernel_rfl) ?_
  refine then_code ?_
  refine wpC_true (by kernel_rfl) ?_
  refine wpC_seq ?_
  refine wpC_region ?_
  refine wpF_run 2 [(19, (.int .i64 ((6 : Nat) : Int))), (18, (.agg (celC Cel.zero).toArray))] (by kernel_rfl) ?_
  refine wpF_step (op_store (d := none) 75 w.heap.size 0 75 (.agg (celC Cel.zero).toArray) (celC Cel.zero) (celC Cel.zero) (by kernel_rfl) (hBw1.ext hEw2) rfl (by rw [celC_len]; kernel_rfl) (by simp) (celC_one _) ?_)
  intro w3 hBw3 hCw3
  have hzw3 := hCw3.size
  rw [setFrom_all _ _ (by simp)] at hBw3
  refine wpF_run 1 [(3, (.int .i64 ((6 : Nat) : Int)))] (by kernel_rfl) ?_
  refine wpF_end (by kernel_rfl) ?_
  refine then_code ?_
  refine wpC_ret ?_
  refine then_ret ?_
  refine body_ret2 (by kernel_rfl) (show resVal Try.prog 40 _ _ (.cell 2 75) (.agg (celC Cel.zero).toArray) from ⟨⟨w.heap.size, 0, none⟩, (by kernel_rfl), run_loadVar_agg (T := 75) (vs := celC Cel.zero) (by kernel_rfl) (by rw [celC_len]; kernel_rfl) (hBw3).all⟩) (show resVal Try.prog 40 _ _ (.tmp 3) (.int .i64 ((6 : Nat) : Int)) by (show _ = _; kernel_rfl)) ?_
  exact ⟨rfl, (Ext.own (hEw1.trans hEw2) hCw3 (by omega))⟩

theorem c_GetCellLong {lo_l hi_l : Nat} {a_l : Option Addr} {n_l c_l : Nat} {l : List UInt8}  (w : World) (h_l : Bs lo_l hi_l w a_l n_l c_l l) (hp0 : 48 < n_l) :
    Calls Try.prog 44 #[(.slice a_l n_l c_l)] w (Ret fun r w' => r = (.tuple #[(.agg (celC Cel.zero).toArray), (.int .i64 ((5 : Nat) : Int))]) ∧ Ext w w') := by
  refine calls_of (n := 40) (σ := [(0, (.slice a_l n_l c_l))]) Try.func44 rfl (by kernel_rfl) ?_
  replace h_l := h_l.now; have hle_l := h_l.le
  refine wpC_seq ?_
  refine wpC_region ?_
  refine wpF_step (op_new (d := (some 2)) (s := Instr.alloc 75 true (.tuple #[])) (.pointer (some ⟨w.heap.size, 0, none⟩)) (celC Cel.zero) 75 (by kernel_rfl) (by kernel_rfl) ?_)
  intro w1 hBw1 hEw1
  have hzw1 := hEw1.size; have hlw1 := hBw1.lt
  refine wpF_run 1 [(3, (.int .i64 ((0 : Nat) : Int)))] (by kernel_rfl) ?_
  refine wpF_end (by kernel_rfl) ?_
  refine then_code ?_
  refine wpC_seq ?_
  refine wpC_region ?_
  refine wpF_run 1 [(12, (.slice a_l n_l c_l))] (by kernel_rfl) ?_
  refine wpF_step (op_callAt (d := (some 13)) (by kernel_rfl) (c_readLong 48 _ (h_l.ext hEw1) (by omega)) ?_)
  rintro _ w2 ⟨rfl, hEw2⟩
  have hzw2 := hEw2.size
  refine wpF_run 5 [(5, (.int .i64 ((5 : Nat) : Int))), (4, .nilFunc), (15, (.int .i64 ((5 : Nat) : Int))), (14, .nilFunc), (11, (.tuple #[.nilFunc, (.int .i64 ((5 : Nat) : Int))]))] (by kernel_rfl) ?_
  refine wpF_end (by kernel_rfl) ?_
  refine then_code ?_
  refine wpC_seq ?_
  refine wpC_seq ?_
  refine wpC_region ?_
  refine wpF_run 2 [(17, (.bool true)), (16, (.int .i64 ((5 : Nat) : Int)))] (by kernel_rfl) ?_
  refine wpF_end (by kernel_rfl) ?_
  refine then_code ?_
  refine wpC_true (by kernel_rfl) ?_
  refine wpC_seq ?_
  refine wpC_region ?_
  refine wpF_run 2 [(19, (.int .i64 ((5 : Nat) : Int))), (18, (.agg (celC Cel.zero).toArray))] (by kernel_rfl) ?_
  refine wpF_step (op_store (d := none) 75 w.heap.size 0 75 (.agg (celC Cel.zero).toArray) (celC Cel.zero) (celC Cel.zero) (by kernel_rfl) (hBw1.ext hEw2) rfl (by rw [celC_len]; kernel_rfl) (by simp) (celC_one _) ?_)
  intro w3 hBw3 hCw3
  have hzw3 := hCw3.size
  rw [setFrom_all _ _ (by simp)] at hBw3
  refine wpF_run 1 [(3, (.int .i64 ((5 : Nat) : Int)))] (by kernel_rfl) ?_
  refine wpF_end (by kernel_rfl) ?_
  refine then_code ?_
  refine wpC_ret ?_
  refine then_ret ?_
  refine body_ret2 (by kernel_rfl) (show resVal Try.prog 40 _ _ (.cell 2 75) (.agg (celC Cel.zero).toArray) from ⟨⟨w.heap.size, 0, none⟩, (by kernel_rfl), run_loadVar_agg (T := 75) (vs := celC Cel.zero) (by kernel_rfl) (by rw [celC_len]; kernel_rfl) (hBw3).all⟩) (show resVal Try.prog 40 _ _ (.tmp 3) (.int .i64 ((5 : Nat) : Int)) by (show _ = _; kernel_rfl)) ?_
  exact ⟨rfl, (Ext.own (hEw1.trans hEw2) hCw3 (by omega))⟩

theorem c_GetCell {lo_l hi_l : Nat} {a_l : Option Addr} {n_l c_l : Nat} {l : List UInt8}  (w : World) (h_l : Bs lo_l hi_l w a_l n_l c_l l) (hp0 : n_l = 48) :
    Calls Try.prog 44 #[(.slice a_l n_l c_l)] w (Ret fun r w' => r = (.tuple #[(.agg (celC (Cel.of l)).toArray), (.int .i64 ((0 : Nat) : Int))]) ∧ Ext w w') := by
  refine calls_of (n := 40) (σ := [(0, (.slice a_l n_l c_l))]) Try.func44 rfl (by kernel_rfl) ?_
  replace h_l := h_l.now; have hle_l := h_l.le
  refine wpC_seq ?_
  refine wpC_region ?_
  refine wpF_step (op_new (d := (some 2)) (s := Instr.alloc 75 true (.tuple #[])) (.pointer (some ⟨w.heap.size, 0, none⟩)) (celC Cel.zero) 75 (by kernel_rfl) (by kernel_rfl) ?_)
  intro w1 hBw1 hEw1
  have hzw1 := hEw1.size; have hlw1 := hBw1.lt
  refine wpF_run 1 [(3, (.int .i64 ((0 : Nat) : Int)))] (by kernel_rfl) ?_
  refine wpF_end (by kernel_rfl) ?_
  refine then_code ?_
  refine wpC_seq ?_
  refine wpC_region ?_
  refine wpF_run 1 [(12, (.slice a_l n_l c_l))] (by kernel_rfl) ?_
  refine wpF_step (op_callAt (d := (some 13)) (by kernel_rfl) (c_read 48 _ (h_l.ext hEw1) (by omega)) ?_)
  rintro _ w2 ⟨a1, rfl, hFz1_0, hFz1_1, hEw2⟩
  have hzw2 := hEw2.size
  have hla1 := hFz1_1.lt
  refine wpF_run 5 [(5, (.int .i64 ((0 : Nat) : Int))), (4, (.func (.func 58) #[(.pointer (some ⟨a1, 0, none⟩))] #[])), (15, (.int .i64 ((0 : Nat) : Int))), (14, (.func (.func 58) #[(.pointer (some ⟨a1, 0, none⟩))] #[])), (11, (.tuple #[(.func (.func 58) #[(.pointer (some ⟨a1, 0, none⟩))] #[]), (.int .i64 ((0 : Nat) : Int))]))] (by kernel_rfl) ?_
  refine wpF_end (by kernel_rfl) ?_
  refine then_code ?_
  refine wpC_seq ?_
  refine wpC_seq ?_
  refine wpC_region ?_
  refine wpF_run 2 [(17, (.bool false)), (16, (.int .i64 ((0 : Nat) : Int)))] (by kernel_rfl) ?_
  refine wpF_end (by kernel_rfl) ?_
  refine then_code ?_
  refine wpC_false (by kernel_rfl) ?_
  refine wpC_skip ?_
  refine then_code ?_
  refine wpC_seq ?_
  refine wpC_region ?_
  refine wpF_run 1 [(20, (.func (.func 58) #[(.pointer (some ⟨a1, 0, none⟩))] #[]))] (by kernel_rfl) ?_
  refine wpF_step (op_callAt (d := (some 21)) (by kernel_rfl) (c_next 32 _ hFz1_1 (((h_l.ext hEw1)).ext hEw2) (by omega) (by omega)) ?_)
  rintro _ w3 ⟨a2, a3, rfl, hPw3, hBw3, hQw3, hCw3⟩
  have hzw3 := hCw3.size
  have hlew3 := hPw3.le; have hlew3q := hQw3.le
  obtain ⟨b1, o1, rfl⟩ := hPw3.addr (by omega)
  refine wpF_step (op_v (d := (some 22)) (s := Instr.arrayAt 50 (.slice (some ⟨b1, o1, none⟩) 32 c_l)) (v := (.pointer (some ⟨b1, o1, none⟩))) (by kernel_rfl) (run_arrPtr (m := 32) (E := 5) (by kernel_rfl) (by omega)) ?_)
  refine wpF_step (op_v (d := (some 23)) (s := Instr.loadAt 50 (.pointer (some ⟨b1, o1, none⟩))) (v := (.agg (digC (Dig.of (l.take 32))).toArray)) (by kernel_rfl) (rn_lda (vs := digC (Dig.of (l.take 32))) (by kernel_rfl) (by rw [digC_len]; kernel_rfl) (hPw3.atDig (by have := h_l.len_eq; simp; omega))) ?_)
  refine wpF_step (op_new (d := (some 6)) (s := Instr.alloc 50 true (.tuple #[])) (.pointer (some ⟨w3.heap.size, 0, none⟩)) (digC Dig.zero) 50 (by kernel_rfl) (by kernel_rfl) ?_)
  intro w4 hBw4 hEw4
  have hzw4 := hEw4.size; have hlw4 := hBw4.lt
  refine wpF_step (op_store (d := none) 50 w3.heap.size 0 50 (.agg (digC (Dig.of (l.take 32))).toArray) (digC Dig.zero) (digC (Dig.of (l.take 32))) (by kernel_rfl) hBw4 rfl (by rw [digC_len]; kernel_rfl) (by simp) (digC_one _) ?_)
  intro w5 hBw5 hCw5
  have hzw5 := hCw5.size
  rw [setFrom_all _ _ (by simp)] at hBw5
  refine wpF_end (by kernel_rfl) ?_
  refine then_code ?_
  refine wpC_seq ?_
  refine wpC_region ?_
  refine wpF_run 1 [(25, (.func (.func 58) #[(.pointer (some ⟨a1, 0, none⟩))] #[]))] (by kernel_rfl) ?_
  refine wpF_step (op_callAt (d := (some 26)) (by kernel_rfl) (c_next 8 _ (((hBw3.ext hEw4)).chg hCw5 (fun hs => by have h : _ = _ := hs; omega)) (((hQw3.ext hEw4)).chg hCw5 (fun k h1 h2 hs => by have h : k = _ := hs; omega)) (by omega) (by omega)) ?_)
  rintro _ w6 ⟨a4, a5, rfl, hPw6, hBw6, hQw6, hCw6⟩
  have hzw6 := hCw6.size
  have hlew6 := hPw6.le; have hlew6q := hQw6.le
  refine wpF_step (op_callAt (d := (some 27)) (by kernel_rfl) (c_Get64 _ hPw6) ?_)
  rintro _ _ ⟨rfl, rfl⟩
  refine wpF_run 5 [(8, (.int .i64 ((getE ((l.drop 32).take 8) 8 : Nat) : Int))), (7, (.int .u64 ((getV ((l.drop 32).take 8) 8 : Nat) : Int))), (29, (.int .i64 ((getE ((l.drop 32).take 8) 8 : Nat) : Int))), (28, (.int .u64 ((getV ((l.drop 32).take 8) 8 : Nat) : Int))), (24, (.tuple #[(.int .u64 ((getV ((l.drop 32).take 8) 8 : Nat) : Int)), (.int .i64 ((getE ((l.drop 32).take 8) 8 : Nat) : Int))]))] (by kernel_rfl) ?_
  refine wpF_end (by kernel_rfl) ?_
  refine then_code ?_
  refine wpC_seq ?_
  refine wpC_region ?_
  refine wpF_run 1 [(31, (.func (.func 58) #[(.pointer (some ⟨a1, 0, none⟩))] #[]))] (by kernel_rfl) ?_
  refine wpF_step (op_callAt (d := (some 32)) (by kernel_rfl) (c_next 8 _ hBw6 hQw6 (by omega) (by omega)) ?_)
  rintro _ w7 ⟨a6, a7, rfl, hPw7, hBw7, hQw7, hCw7⟩
  have hzw7 := hCw7.size
  have hlew7 := hPw7.le; have hlew7q := hQw7.le
  refine wpF_step (op_callAt (d := (some 33)) (by kernel_rfl) (c_Get64 _ hPw7) ?_)
  rintro _ _ ⟨rfl, rfl⟩
  rw [show getV (((l.drop 32).drop 8).take 8) 8 = getV ((l.drop 40).take 8) 8 from by rw [List.drop_drop]]
  refine wpF_run 5 [(10, (.int .i64 ((getE (((l.drop 32).drop 8).take 8) 8 : Nat) : Int))), (9, (.int .u64 ((getV ((l.drop 40).take 8) 8 : Nat) : Int))), (35, (.int .i64 ((getE (((l.drop 32).drop 8).take 8) 8 : Nat) : Int))), (34, (.int .u64 ((getV ((l.drop 40).take 8) 8 : Nat) : Int))), (30, (.tuple #[(.int .u64 ((getV ((l.drop 40).take 8) 8 : Nat) : Int)), (.int .i64 ((getE (((l.drop 32).drop 8).take 8) 8 : Nat) : Int))]))] (by kernel_rfl) ?_
  refine wpF_end (by kernel_rfl) ?_
  refine then_code ?_
  refine wpC_seq ?_
  refine wpC_region ?_
  refine wpF_step (op_v (d := (some 36)) (s := Instr.loadAt 50 (.pointer (some ⟨w3.heap.size, 0, none⟩))) (v := (.agg (digC (Dig.of (l.take 32))).toArray)) (by kernel_rfl) (rn_lda (vs := digC (Dig.of (l.take 32))) (by kernel_rfl) (by rw [digC_len]; kernel_rfl) (((((hBw5).chg hCw6 (fun hs => by have h : _ = _ := hs; omega))).chg hCw7 (fun hs => by have h : _ = _ := hs; omega)).all)) ?_)
  refine wpF_run 2 [(38, (.int .u64 ((getV ((l.drop 40).take 8) 8 : Nat) : Int))), (37, (.int .u64 ((getV ((l.drop 32).take 8) 8 : Nat) : Int)))] (by kernel_rfl) ?_
  refine wpF_step (op_v (d := (some 39)) (s := Instr.build 75 #[(0, (.agg (digC (Dig.of (l.take 32))).toArray)), (1, (.int .u64 ((getV ((l.drop 32).take 8) 8 : Nat) : Int))), (2, (.int .u64 ((getV ((l.drop 40).take 8) 8 : Nat) : Int)))]) (v := (.agg (celC (Cel.of l)).toArray)) (by kernel_rfl) ((run_build_cel (Dig.of (l.take 32)) (getV ((l.drop 32).take 8) 8) (getV ((l.drop 40).take 8) 8) (getV_lt _ 8) (getV_lt _ 8) (by kernel_rfl) (by kernel_rfl)).trans (congrArg (fun z : Cel => Result.ok (Value.agg (celC z).toArray) _) (show (⟨(Dig.of (l.take 32)), getV ((l.drop 32).take 8) 8, getV ((l.drop 40).take 8) 8, getV_lt _ 8, getV_lt _ 8⟩ : Cel) = Cel.of l from rfl))) ?_)
  refine wpF_step (op_store (d := none) 75 w.heap.size 0 75 (.agg (celC (Cel.of l)).toArray) (celC Cel.zero) (celC (Cel.of l)) (by kernel_rfl) (((((((((((hBw1.ext hEw2)).chg hCw3 (fun hs => by have h : _ = _ := hs; omega))).ext hEw4)).chg hCw5 (fun hs => by have h : _ = _ := hs; omega))).chg hCw6 (fun hs => by have h : _ = _ := hs; omega))).chg hCw7 (fun hs => by have h : _ = _ := hs; omega)) rfl (by rw [celC_len]; kernel_rfl) (by simp) (celC_one _) ?_)
  intro w8 hBw8 hCw8
  have hzw8 := hCw8.size
  rw [setFrom_all _ _ (by simp)] at hBw8
  refine wpF_run 1 [(3, (.int .i64 ((0 : Nat) : Int)))] (by kernel_rfl) ?_
  refine wpF_end (by kernel_rfl) ?_
  refine then_code ?_
  refine wpC_ret ?_
  refine body_ret2 (by kernel_rfl) (show resVal Try.prog 40 _ _ (.cell 2 75) (.agg (celC (Cel.of l)).toArray) from ⟨⟨w.heap.size, 0, none⟩, (by kernel_rfl), run_loadVar_agg (T := 75) (vs := celC (Cel.of l)) (by kernel_rfl) (by rw [celC_len]; kernel_rfl) (hBw8).all⟩) (show resVal Try.prog 40 _ _ (.tmp 3) (.int .i64 ((0 : Nat) : Int)) by (show _ = _; kernel_rfl)) ?_
  exact ⟨rfl, (Ext.own (Ext.own (Ext.own (Ext.own ((Ext.own (hEw1.trans hEw2) hCw3 (by omega)).trans hEw4) hCw5 (by omega)) hCw6 (by omega)) hCw7 (by omega)) hCw8 (by omega))⟩

theorem c_GetEntryShort {lo_l hi_l : Nat} {a_l : Option Addr} {n_l c_l : Nat} {l : List UInt8}  (w : World) (h_l : Bs lo_l hi_l w a_l n_l c_l l) (hp0 : n_l < 33) :
    Calls Try.prog 39 #[(.slice a_l n_l c_l)] w (Ret fun r w' => r = (.tuple #[(.agg (entC Ent.zero).toArray), (.int .i64 ((6 : Nat) : Int))]) ∧ Ext w w') := by
  refine calls_of (n := 35) (σ := [(0, (.slice a_l n_l c_l))]) Try.func39 rfl (by kernel_rfl) ?_
  replace h_l := h_l.now; have hle_l := h_l.le
  refine wpC_seq ?_
  refine wpC_region ?_
  refine wpF_step (op_new (d := (some 2)) (s := Instr.alloc 61 true (.tuple #[])) (.pointer (some ⟨w.heap.size, 0, none⟩)) (entC Ent.zero) 61 (by kernel_rfl) (by kernel_rfl) ?_)
  intro w1 hBw1 hEw1
  have hzw1 := hEw1.size; have hlw1 := hBw1.lt
  refine wpF_run 1 [(3, (.int .i64 ((0 : Nat) : Int)))] (by kernel_rfl) ?_
  refine wpF_end (by kernel_rfl) ?_
  refine then_code ?_
  refine wpC_seq ?_
  refine wpC_region ?_
  refine wpF_run 1 [(10, (.slice a_l n_l c_l))] (by kernel_rfl) ?_
  refine wpF_step (op_callAt (d := (some 11)) (by kernel_rfl) (c_readShort 33 _ (h_l.ext hEw1) (by omega)) ?_)
  rintro _ w2 ⟨rfl, hEw2⟩
  have hzw2 := hEw2.size
  refine wpF_run 5 [(5, (.int .i64 ((6 : Nat) : Int))), (4, .nilFunc), (13, (.int .i64 ((6 : Nat) : Int))), (12, .nilFunc), (9, (.tuple #[.nilFunc, (.int .i64 ((6 : Nat) : Int))]))] (by kernel_rfl) ?_
  refine wpF_end (by kernel_rfl) ?_
  refine then_code ?_
  refine wpC_seq ?_
  refine wpC_seq ?_
  refine wpC_region ?_
  refine wpF_run 2 [(15, (.bool true)), (14, (.int .i64 ((6 : Nat) : Int)))] (by kernel_rfl) ?_
  refine wpF_end (by kernel_rfl) ?_
  refine then_code ?_
  refine wpC_true (by kernel_rfl) ?_
  refine wpC_seq ?_
  refine wpC_region ?_
  refine wpF_run 2 [(17, (.int .i64 ((6 : Nat) : Int))), (16, (.agg (entC Ent.zero).toArray))] (by kernel_rfl) ?_
  refine wpF_step (op_store (d := none) 61 w.heap.size 0 61 (.agg (entC Ent.zero).toArray) (entC Ent.zero) (entC Ent.zero) (by kernel_rfl) (hBw1.ext hEw2) rfl (by rw [entC_len]; kernel_rfl) (by simp) (entC_one _) ?_)
  intro w3 hBw3 hCw3
  have hzw3 := hCw3.size
  rw [setFrom_all _ _ (by simp)] at hBw3
  refine wpF_run 1 [(3, (.int .i64 ((6 : Nat) : Int)))] (by kernel_rfl) ?_
  refine wpF_end (by kernel_rfl) ?_
  refine then_code ?_
  refine wpC_ret ?_
  refine then_ret ?_
  refine body_ret2 (by kernel_rfl) (show resVal Try.prog 35 _ _ (.cell 2 61) (.agg (entC Ent.zero).toArray) from ⟨⟨w.heap.size, 0, none⟩, (by kernel_rfl), run_loadVar_agg (T := 61) (vs := entC Ent.zero) (by kernel_rfl) (by rw [entC_len]; kernel_rfl) (hBw3).all⟩) (show resVal Try.prog 35 _ _ (.tmp 3) (.int .i64 ((6 : Nat) : Int)) by (show _ = _; kernel_rfl)) ?_
  exact ⟨rfl, (Ext.own (hEw1.trans hEw2) hCw3 (by omega))⟩

theorem c_GetEntryLong {lo_l hi_l : Nat} {a_l : Option Addr} {n_l c_l : Nat} {l : List UInt8}  (w : World) (h_l : Bs lo_l hi_l w a_l n_l c_l l) (hp0 : 33 < n_l) :
    Calls Try.prog 39 #[(.slice a_l n_l c_l)] w (Ret fun r w' => r = (.tuple #[(.agg (entC Ent.zero).toArray), (.int .i64 ((5 : Nat) : Int))]) ∧ Ext w w') := by
  refine calls_of (n := 35) (σ := [(0, (.slice a_l n_l c_l))]) Try.func39 rfl (by kernel_rfl) ?_
  replace h_l := h_l.now; have hle_l := h_l.le
  refine wpC_seq ?_
  refine wpC_region ?_
  refine wpF_step (op_new (d := (some 2)) (s := Instr.alloc 61 true (.tuple #[])) (.pointer (some ⟨w.heap.size, 0, none⟩)) (entC Ent.zero) 61 (by kernel_rfl) (by kernel_rfl) ?_)
  intro w1 hBw1 hEw1
  have hzw1 := hEw1.size; have hlw1 := hBw1.lt
  refine wpF_run 1 [(3, (.int .i64 ((0 : Nat) : Int)))] (by kernel_rfl) ?_
  refine wpF_end (by kernel_rfl) ?_
  refine then_code ?_
  refine wpC_seq ?_
  refine wpC_region ?_
  refine wpF_run 1 [(10, (.slice a_l n_l c_l))] (by kernel_rfl) ?_
  refine wpF_step (op_callAt (d := (some 11)) (by kernel_rfl) (c_readLong 33 _ (h_l.ext hEw1) (by omega)) ?_)
  rintro _ w2 ⟨rfl, hEw2⟩
  have hzw2 := hEw2.size
  refine wpF_run 5 [(5, (.int .i64 ((5 : Nat) : Int))), (4, .nilFunc), (13, (.int .i64 ((5 : Nat) : Int))), (12, .nilFunc), (9, (.tuple #[.nilFunc, (.int .i64 ((5 : Nat) : Int))]))] (by kernel_rfl) ?_
  refine wpF_end (by kernel_rfl) ?_
  refine then_code ?_
  refine wpC_seq ?_
  refine wpC_seq ?_
  refine wpC_region ?_
  refine wpF_run 2 [(15, (.bool true)), (14, (.int .i64 ((5 : Nat) : Int)))] (by kernel_rfl) ?_
  refine wpF_end (by kernel_rfl) ?_
  refine then_code ?_
  refine wpC_true (by kernel_rfl) ?_
  refine wpC_seq ?_
  refine wpC_region ?_
  refine wpF_run 2 [(17, (.int .i64 ((5 : Nat) : Int))), (16, (.agg (entC Ent.zero).toArray))] (by kernel_rfl) ?_
  refine wpF_step (op_store (d := none) 61 w.heap.size 0 61 (.agg (entC Ent.zero).toArray) (entC Ent.zero) (entC Ent.zero) (by kernel_rfl) (hBw1.ext hEw2) rfl (by rw [entC_len]; kernel_rfl) (by simp) (entC_one _) ?_)
  intro w3 hBw3 hCw3
  have hzw3 := hCw3.size
  rw [setFrom_all _ _ (by simp)] at hBw3
  refine wpF_run 1 [(3, (.int .i64 ((5 : Nat) : Int)))] (by kernel_rfl) ?_
  refine wpF_end (by kernel_rfl) ?_
  refine then_code ?_
  refine wpC_ret ?_
  refine then_ret ?_
  refine body_ret2 (by kernel_rfl) (show resVal Try.prog 35 _ _ (.cell 2 61) (.agg (entC Ent.zero).toArray) from ⟨⟨w.heap.size, 0, none⟩, (by kernel_rfl), run_loadVar_agg (T := 61) (vs := entC Ent.zero) (by kernel_rfl) (by rw [entC_len]; kernel_rfl) (hBw3).all⟩) (show resVal Try.prog 35 _ _ (.tmp 3) (.int .i64 ((5 : Nat) : Int)) by (show _ = _; kernel_rfl)) ?_
  exact ⟨rfl, (Ext.own (hEw1.trans hEw2) hCw3 (by omega))⟩

theorem c_GetEntry {lo_l hi_l : Nat} {a_l : Option Addr} {n_l c_l : Nat} {l : List UInt8}  (w : World) (h_l : Bs lo_l hi_l w a_l n_l c_l l) (hp0 : n_l = 33) (hp1 : chkE (Ent.of l) = 0) :
    Calls Try.prog 39 #[(.slice a_l n_l c_l)] w (Ret fun r w' => r = (.tuple #[(.agg (entC (Ent.of l)).toArray), (.int .i64 ((0 : Nat) : Int))]) ∧ Ext w w') := by
  refine calls_of (n := 35) (σ := [(0, (.slice a_l n_l c_l))]) Try.func39 rfl (by kernel_rfl) ?_
  replace h_l := h_l.now; have hle_l := h_l.le
  refine wpC_seq ?_
  refine wpC_region ?_
  refine wpF_step (op_new (d := (some 2)) (s := Instr.alloc 61 true (.tuple #[])) (.pointer (some ⟨w.heap.size, 0, none⟩)) (entC Ent.zero) 61 (by kernel_rfl) (by kernel_rfl) ?_)
  intro w1 hBw1 hEw1
  have hzw1 := hEw1.size; have hlw1 := hBw1.lt
  refine wpF_run 1 [(3, (.int .i64 ((0 : Nat) : Int)))] (by kernel_rfl) ?_
  refine wpF_end (by kernel_rfl) ?_
  refine then_code ?_
  refine wpC_seq ?_
  refine wpC_region ?_
  refine wpF_run 1 [(10, (.slice a_l n_l c_l))] (by kernel_rfl) ?_
  refine wpF_step (op_callAt (d := (some 11)) (by kernel_rfl) (c_read 33 _ (h_l.ext hEw1) (by omega)) ?_)
  rintro _ w2 ⟨a1, rfl, hFz1_0, hFz1_1, hEw2⟩
  have hzw2 := hEw2.size
  have hla1 := hFz1_1.lt
  refine wpF_run 5 [(5, (.int .i64 ((0 : Nat) : Int))), (4, (.func (.func 58) #[(.pointer (some ⟨a1, 0, none⟩))] #[])), (13, (.int .i64 ((0 : Nat) : Int))), (12, (.func (.func 58) #[(.pointer (some ⟨a1, 0, none⟩))] #[])), (9, (.tuple #[(.func (.func 58) #[(.pointer (some ⟨a1, 0, none⟩))] #[]), (.int .i64 ((0 : Nat) : Int))]))] (by kernel_rfl) ?_
  refine wpF_end (by kernel_rfl) ?_
  refine then_code ?_
  refine wpC_seq ?_
  refine wpC_seq ?_
  refine wpC_region ?_
  refine wpF_run 2 [(15, (.bool false)), (14, (.int .i64 ((0 : Nat) : Int)))] (by kernel_rfl) ?_
  refine wpF_end (by kernel_rfl) ?_
  refine then_code ?_
  refine wpC_false (by kernel_rfl) ?_
  refine wpC_skip ?_
  refine then_code ?_
  refine wpC_seq ?_
  refine wpC_region ?_
  refine wpF_run 1 [(18, (.func (.func 58) #[(.pointer (some ⟨a1, 0, none⟩))] #[]))] (by kernel_rfl) ?_
  refine wpF_step (op_callAt (d := (some 19)) (by kernel_rfl) (c_next 1 _ hFz1_1 (((h_l.ext hEw1)).ext hEw2) (by omega) (by omega)) ?_)
  rintro _ w3 ⟨a2, a3, rfl, hPw3, hBw3, hQw3, hCw3⟩
  have hzw3 := hCw3.size
  have hlew3 := hPw3.le; have hlew3q := hQw3.le
  obtain ⟨b1, o1, rfl⟩ := hPw3.addr (by omega)
  refine wpF_step (op_v (d := (some 20)) (s := Instr.indexAt 23 (.slice (some ⟨b1, o1, none⟩) 1 c_l) (.int .i64 ((0 : Nat) : Int))) (v := (.pointer (some ⟨b1, o1 + 0 * 1, none⟩))) (by kernel_rfl) (rn_ixs (E := 5) (sz := 1) (by kernel_rfl) (by kernel_rfl) (by omega)) ?_)
  refine wpF_step (op_v (d := (some 21)) (s := Instr.loadAt 5 (.pointer (some ⟨b1, o1 + 0 * 1, none⟩))) (v := (.int .u8 ((byt (l.take 1) 0 : Nat) : Int))) (by kernel_rfl) (rn_ld (by kernel_rfl) (hPw3.cell1 (by omega))) ?_)
  refine wpF_run 1 [(6, (.int .u8 ((byt (l.take 1) 0 : Nat) : Int)))] (by kernel_rfl) ?_
  refine wpF_end (by kernel_rfl) ?_
  refine then_code ?_
  refine wpC_seq ?_
  refine wpC_region ?_
  refine wpF_run 2 [(23, (.func (.func 58) #[(.pointer (some ⟨a1, 0, none⟩))] #[])), (22, (.int .u8 ((byt (l.take 1) 0 : Nat) : Int)))] (by kernel_rfl) ?_
  refine wpF_step (op_callAt (d := (some 24)) (by kernel_rfl) (c_next 32 _ hBw3 hQw3 (by omega) (by omega)) ?_)
  rintro _ w4 ⟨a4, a5, rfl, hPw4, hBw4, hQw4, hCw4⟩
  have hzw4 := hCw4.size
  have hlew4 := hPw4.le; have hlew4q := hQw4.le
  obtain ⟨b2, o2, rfl⟩ := hPw4.addr (by omega)
  refine wpF_step (op_v (d := (some 25)) (s := Instr.arrayAt 50 (.slice (some ⟨b2, o2, none⟩) 32 (c_l - 1))) (v := (.pointer (some ⟨b2, o2, none⟩))) (by kernel_rfl) (run_arrPtr (m := 32) (E := 5) (by kernel_rfl) (by omega)) ?_)
  refine wpF_step (op_v (d := (some 26)) (s := Instr.loadAt 50 (.pointer (some ⟨b2, o2, none⟩))) (v := (.agg (digC (Dig.of ((l.drop 1).take 32))).toArray)) (by kernel_rfl) (rn_lda (vs := digC (Dig.of ((l.drop 1).take 32))) (by kernel_rfl) (by rw [digC_len]; kernel_rfl) (hPw4.atDig (by have := h_l.len_eq; simp; omega))) ?_)
  refine wpF_step (op_v (d := (some 27)) (s := Instr.build 61 #[(0, (.int .u8 ((byt (l.take 1) 0 : Nat) : Int))), (1, (.agg (digC (Dig.of ((l.drop 1).take 32))).toArray))]) (v := (.agg (entC (Ent.of l)).toArray)) (by kernel_rfl) ((run_build_ent (byt (l.take 1) 0) (Dig.of ((l.drop 1).take 32)) (byt_lt _ _) (by kernel_rfl) (by kernel_rfl)).trans (congrArg (fun z : Ent => Result.ok (Value.agg (entC z).toArray) _) (show (⟨byt (l.take 1) 0, (Dig.of ((l.drop 1).take 32)), byt_lt _ _⟩ : Ent) = Ent.of l from Ent.ext' (byt_take1 l) rfl))) ?_)
  refine wpF_step (op_new (d := (some 7)) (s := Instr.alloc 61 true (.tuple #[])) (.pointer (some ⟨w4.heap.size, 0, none⟩)) (entC Ent.zero) 61 (by kernel_rfl) (by kernel_rfl) ?_)
  intro w5 hBw5 hEw5
  have hzw5 := hEw5.size; have hlw5 := hBw5.lt
  refine wpF_step (op_store (d := none) 61 w4.heap.size 0 61 (.agg (entC (Ent.of l)).toArray) (entC Ent.zero) (entC (Ent.of l)) (by kernel_rfl) hBw5 rfl (by rw [entC_len]; kernel_rfl) (by simp) (entC_one _) ?_)
  intro w6 hBw6 hCw6
  have hzw6 := hCw6.size
  rw [setFrom_all _ _ (by simp)] at hBw6
  refine wpF_end (by kernel_rfl) ?_
  refine then_code ?_
  refine wpC_seq ?_
  refine wpC_seq ?_
  refine wpC_region ?_
  refine wpF_step (op_v (d := (some 28)) (s := Instr.loadAt 61 (.pointer (some ⟨w4.heap.size, 0, none⟩))) (v := (.agg (entC (Ent.of l)).toArray)) (by kernel_rfl) (rn_lda (vs := entC (Ent.of l)) (by kernel_rfl) (by rw [entC_len]; kernel_rfl) (hBw6.all)) ?_)
  refine wpF_step (op_callAt (d := (some 29)) (by kernel_rfl) (c_CheckEntry (Ent.of l) _) ?_)
  rintro _ w7 ⟨rfl, hEw7⟩
  have hzw7 := hEw7.size
  refine wpF_run 1 [(8, (.int .i64 ((chkE (Ent.of l) : Nat) : Int)))] (by kernel_rfl) ?_
  refine wpF_end (by kernel_rfl) ?_
  refine then_code ?_
  refine wpC_seq ?_
  refine wpC_region ?_
  refine wpF_run 1 [(30, (.int .i64 ((chkE (Ent.of l) : Nat) : Int)))] (by kernel_rfl) ?_
  refine wpF_step (op_eqv (d := (some 31)) (.bool ((((chkE (Ent.of l) : Nat) : Int) != ((0 : Nat) : Int)))) (.bool false) (by kernel_rfl) (congrArg Value.bool (cmpNeF (by omega))) ?_)
  refine wpF_end (by kernel_rfl) ?_
  refine then_code ?_
  refine wpC_false (by kernel_rfl) ?_
  refine wpC_skip ?_
  refine then_code ?_
  refine wpC_seq ?_
  refine wpC_region ?_
  refine wpF_step (op_v (d := (some 34)) (s := Instr.loadAt 61 (.pointer (some ⟨w4.heap.size, 0, none⟩))) (v := (.agg (entC (Ent.of l)).toArray)) (by kernel_rfl) (rn_lda (vs := entC (Ent.of l)) (by kernel_rfl) (by rw [entC_len]; kernel_rfl) ((hBw6.ext hEw7).all)) ?_)
  refine wpF_step (op_store (d := none) 61 w.heap.size 0 61 (.agg (entC (Ent.of l)).toArray) (entC Ent.zero) (entC (Ent.of l)) (by kernel_rfl) (((((((((((hBw1.ext hEw2)).chg hCw3 (fun hs => by have h : _ = _ := hs; omega))).chg hCw4 (fun hs => by have h : _ = _ := hs; omega))).ext hEw5)).chg hCw6 (fun hs => by have h : _ = _ := hs; omega))).ext hEw7) rfl (by rw [entC_len]; kernel_rfl) (by simp) (entC_one _) ?_)
  intro w8 hBw8 hCw8
  have hzw8 := hCw8.size
  rw [setFrom_all _ _ (by simp)] at hBw8
  refine wpF_run 1 [(3, (.int .i64 ((0 : Nat) : Int)))] (by kernel_rfl) ?_
  refine wpF_end (by kernel_rfl) ?_
  refine then_code ?_
  refine wpC_ret ?_
  refine body_ret2 (by kernel_rfl) (show resVal Try.prog 35 _ _ (.cell 2 61) (.agg (entC (Ent.of l)).toArray) from ⟨⟨w.heap.size, 0, none⟩, (by kernel_rfl), run_loadVar_agg (T := 61) (vs := entC (Ent.of l)) (by kernel_rfl) (by rw [entC_len]; kernel_rfl) (hBw8).all⟩) (show resVal Try.prog 35 _ _ (.tmp 3) (.int .i64 ((0 : Nat) : Int)) by (show _ = _; kernel_rfl)) ?_
  exact ⟨rfl, (Ext.own ((Ext.own ((Ext.own (Ext.own (hEw1.trans hEw2) hCw3 (by omega)) hCw4 (by omega)).trans hEw5) hCw6 (by omega)).trans hEw7) hCw8 (by omega))⟩

theorem c_GetEntryBad {lo_l hi_l : Nat} {a_l : Option Addr} {n_l c_l : Nat} {l : List UInt8}  (w : World) (h_l : Bs lo_l hi_l w a_l n_l c_l l) (hp0 : n_l = 33) (hp1 : chkE (Ent.of l) = 1) :
    Calls Try.prog 39 #[(.slice a_l n_l c_l)] w (Ret fun r w' => r = (.tuple #[(.agg (entC Ent.zero).toArray), (.int .i64 ((1 : Nat) : Int))]) ∧ Ext w w') := by
  refine calls_of (n := 35) (σ := [(0, (.slice a_l n_l c_l))]) Try.func39 rfl (by kernel_rfl) ?_
  replace h_l := h_l.now; have hle_l := h_l.le
  refine wpC_seq ?_
  refine wpC_region ?_
  refine wpF_step (op_new (d := (some 2)) (s := Instr.alloc 61 true (.tuple #[])) (.pointer (some ⟨w.heap.size, 0, none⟩)) (entC Ent.zero) 61 (by kernel_rfl) (by kernel_rfl) ?_)
  intro w1 hBw1 hEw1
  have hzw1 := hEw1.size; have hlw1 := hBw1.lt
  refine wpF_run 1 [(3, (.int .i64 ((0 : Nat) : Int)))] (by kernel_rfl) ?_
  refine wpF_end (by kernel_rfl) ?_
  refine then_code ?_
  refine wpC_seq ?_
  refine wpC_region ?_
  refine wpF_run 1 [(10, (.slice a_l n_l c_l))] (by kernel_rfl) ?_
  refine wpF_step (op_callAt (d := (some 11)) (by kernel_rfl) (c_read 33 _ (h_l.ext hEw1) (by omega)) ?_)
  rintro _ w2 ⟨a1, rfl, hFz1_0, hFz1_1, hEw2⟩
  have hzw2 := hEw2.size
  have hla1 := hFz1_1.lt
  refine wpF_run 5 [(5, (.int .i64 ((0 : Nat) : Int))), (4, (.func (.func 58) #[(.pointer (some ⟨a1, 0, none⟩))] #[])), (13, (.int .i64 ((0 : Nat) : Int))), (12, (.func (.func 58) #[(.pointer (some ⟨a1, 0, none⟩))] #[])), (9, (.tuple #[(.func (.func 58) #[(.pointer (some ⟨a1, 0, none⟩))] #[]), (.int .i64 ((0 : Nat) : Int))]))] (by kernel_rfl) ?_
  refine wpF_end (by kernel_rfl) ?_
  refine then_code ?_
  refine wpC_seq ?_
  refine wpC_seq ?_
  refine wpC_region ?_
  refine wpF_run 2 [(15, (.bool false)), (14, (.int .i64 ((0 : Nat) : Int)))] (by kernel_rfl) ?_
  refine wpF_end (by kernel_rfl) ?_
  refine then_code ?_
  refine wpC_false (by kernel_rfl) ?_
  refine wpC_skip ?_
  refine then_code ?_
  refine wpC_seq ?_
  refine wpC_region ?_
  refine wpF_run 1 [(18, (.func (.func 58) #[(.pointer (some ⟨a1, 0, none⟩))] #[]))] (by kernel_rfl) ?_
  refine wpF_step (op_callAt (d := (some 19)) (by kernel_rfl) (c_next 1 _ hFz1_1 (((h_l.ext hEw1)).ext hEw2) (by omega) (by omega)) ?_)
  rintro _ w3 ⟨a2, a3, rfl, hPw3, hBw3, hQw3, hCw3⟩
  have hzw3 := hCw3.size
  have hlew3 := hPw3.le; have hlew3q := hQw3.le
  obtain ⟨b1, o1, rfl⟩ := hPw3.addr (by omega)
  refine wpF_step (op_v (d := (some 20)) (s := Instr.indexAt 23 (.slice (some ⟨b1, o1, none⟩) 1 c_l) (.int .i64 ((0 : Nat) : Int))) (v := (.pointer (some ⟨b1, o1 + 0 * 1, none⟩))) (by kernel_rfl) (rn_ixs (E := 5) (sz := 1) (by kernel_rfl) (by kernel_rfl) (by omega)) ?_)
  refine wpF_step (op_v (d := (some 21)) (s := Instr.loadAt 5 (.pointer (some ⟨b1, o1 + 0 * 1, none⟩))) (v := (.int .u8 ((byt (l.take 1) 0 : Nat) : Int))) (by kernel_rfl) (rn_ld (by kernel_rfl) (hPw3.cell1 (by omega))) ?_)
  refine wpF_run 1 [(6, (.int .u8 ((byt (l.take 1) 0 : Nat) : Int)))] (by kernel_rfl) ?_
  refine wpF_end (by kernel_rfl) ?_
  refine then_code ?_
  refine wpC_seq ?_
  refine wpC_region ?_
  refine wpF_run 2 [(23, (.func (.func 58) #[(.pointer (some ⟨a1, 0, none⟩))] #[])), (22, (.int .u8 ((byt (l.take 1) 0 : Nat) : Int)))] (by kernel_rfl) ?_
  refine wpF_step (op_callAt (d := (some 24)) (by kernel_rfl) (c_next 32 _ hBw3 hQw3 (by omega) (by omega)) ?_)
  rintro _ w4 ⟨a4, a5, rfl, hPw4, hBw4, hQw4, hCw4⟩
  have hzw4 := hCw4.size
  have hlew4 := hPw4.le; have hlew4q := hQw4.le
  obtain ⟨b2, o2, rfl⟩ := hPw4.addr (by omega)
  refine wpF_step (op_v (d := (some 25)) (s := Instr.arrayAt 50 (.slice (some ⟨b2, o2, none⟩) 32 (c_l - 1))) (v := (.pointer (some ⟨b2, o2, none⟩))) (by kernel_rfl) (run_arrPtr (m := 32) (E := 5) (by kernel_rfl) (by omega)) ?_)
  refine wpF_step (op_v (d := (some 26)) (s := Instr.loadAt 50 (.pointer (some ⟨b2, o2, none⟩))) (v := (.agg (digC (Dig.of ((l.drop 1).take 32))).toArray)) (by kernel_rfl) (rn_lda (vs := digC (Dig.of ((l.drop 1).take 32))) (by kernel_rfl) (by rw [digC_len]; kernel_rfl) (hPw4.atDig (by have := h_l.len_eq; simp; omega))) ?_)
  refine wpF_step (op_v (d := (some 27)) (s := Instr.build 61 #[(0, (.int .u8 ((byt (l.take 1) 0 : Nat) : Int))), (1, (.agg (digC (Dig.of ((l.drop 1).take 32))).toArray))]) (v := (.agg (entC (Ent.of l)).toArray)) (by kernel_rfl) ((run_build_ent (byt (l.take 1) 0) (Dig.of ((l.drop 1).take 32)) (byt_lt _ _) (by kernel_rfl) (by kernel_rfl)).trans (congrArg (fun z : Ent => Result.ok (Value.agg (entC z).toArray) _) (show (⟨byt (l.take 1) 0, (Dig.of ((l.drop 1).take 32)), byt_lt _ _⟩ : Ent) = Ent.of l from Ent.ext' (byt_take1 l) rfl))) ?_)
  refine wpF_step (op_new (d := (some 7)) (s := Instr.alloc 61 true (.tuple #[])) (.pointer (some ⟨w4.heap.size, 0, none⟩)) (entC Ent.zero) 61 (by kernel_rfl) (by kernel_rfl) ?_)
  intro w5 hBw5 hEw5
  have hzw5 := hEw5.size; have hlw5 := hBw5.lt
  refine wpF_step (op_store (d := none) 61 w4.heap.size 0 61 (.agg (entC (Ent.of l)).toArray) (entC Ent.zero) (entC (Ent.of l)) (by kernel_rfl) hBw5 rfl (by rw [entC_len]; kernel_rfl) (by simp) (entC_one _) ?_)
  intro w6 hBw6 hCw6
  have hzw6 := hCw6.size
  rw [setFrom_all _ _ (by simp)] at hBw6
  refine wpF_end (by kernel_rfl) ?_
  refine then_code ?_
  refine wpC_seq ?_
  refine wpC_seq ?_
  refine wpC_region ?_
  refine wpF_step (op_v (d := (some 28)) (s := Instr.loadAt 61 (.pointer (some ⟨w4.heap.size, 0, none⟩))) (v := (.agg (entC (Ent.of l)).toArray)) (by kernel_rfl) (rn_lda (vs := entC (Ent.of l)) (by kernel_rfl) (by rw [entC_len]; kernel_rfl) (hBw6.all)) ?_)
  refine wpF_step (op_callAt (d := (some 29)) (by kernel_rfl) (c_CheckEntry (Ent.of l) _) ?_)
  rintro _ w7 ⟨rfl, hEw7⟩
  have hzw7 := hEw7.size
  refine wpF_run 1 [(8, (.int .i64 ((chkE (Ent.of l) : Nat) : Int)))] (by kernel_rfl) ?_
  refine wpF_end (by kernel_rfl) ?_
  refine then_code ?_
  refine wpC_seq ?_
  refine wpC_region ?_
  refine wpF_run 1 [(30, (.int .i64 ((chkE (Ent.of l) : Nat) : Int)))] (by kernel_rfl) ?_
  refine wpF_step (op_eqv (d := (some 31)) (.bool ((((chkE (Ent.of l) : Nat) : Int) != ((0 : Nat) : Int)))) (.bool true) (by kernel_rfl) (congrArg Value.bool (cmpNeT (by omega))) ?_)
  refine wpF_end (by kernel_rfl) ?_
  refine then_code ?_
  refine wpC_true (by kernel_rfl) ?_
  refine wpC_seq ?_
  refine wpC_region ?_
  refine wpF_run 2 [(33, (.int .i64 ((chkE (Ent.of l) : Nat) : Int))), (32, (.agg (entC Ent.zero).toArray))] (by kernel_rfl) ?_
  refine wpF_step (op_store (d := none) 61 w.heap.size 0 61 (.agg (entC Ent.zero).toArray) (entC Ent.zero) (entC Ent.zero) (by kernel_rfl) (((((((((((hBw1.ext hEw2)).chg hCw3 (fun hs => by have h : _ = _ := hs; omega))).chg hCw4 (fun hs => by have h : _ = _ := hs; omega))).ext hEw5)).chg hCw6 (fun hs => by have h : _ = _ := hs; omega))).ext hEw7) rfl (by rw [entC_len]; kernel_rfl) (by simp) (entC_one _) ?_)
  intro w8 hBw8 hCw8
  have hzw8 := hCw8.size
  rw [setFrom_all _ _ (by simp)] at hBw8
  refine wpF_run 1 [(3, (.int .i64 ((chkE (Ent.of l) : Nat) : Int)))] (by kernel_rfl) ?_
  refine wpF_end (by kernel_rfl) ?_
  refine then_code ?_
  refine wpC_ret ?_
  refine then_ret ?_
  refine body_ret2 (by kernel_rfl) (show resVal Try.prog 35 _ _ (.cell 2 61) (.agg (entC Ent.zero).toArray) from ⟨⟨w.heap.size, 0, none⟩, (by kernel_rfl), run_loadVar_agg (T := 61) (vs := entC Ent.zero) (by kernel_rfl) (by rw [entC_len]; kernel_rfl) (hBw8).all⟩) (show resVal Try.prog 35 _ _ (.tmp 3) (.int .i64 ((chkE (Ent.of l) : Nat) : Int)) by (show _ = _; kernel_rfl)) ?_
  rw [hp1]; exact ⟨rfl, (Ext.own ((Ext.own ((Ext.own (Ext.own (hEw1.trans hEw2) hCw3 (by omega)) hCw4 (by omega)).trans hEw5) hCw6 (by omega)).trans hEw7) hCw8 (by omega))⟩

theorem c_GetRecordShort {lo_l hi_l : Nat} {a_l : Option Addr} {n_l c_l : Nat} {l : List UInt8}  (w : World) (h_l : Bs lo_l hi_l w a_l n_l c_l l) (hp0 : n_l < 45) :
    Calls Try.prog 34 #[(.slice a_l n_l c_l)] w (Ret fun r w' => r = (.tuple #[(.agg (recC Rec.zero).toArray), (.int .i64 ((6 : Nat) : Int))]) ∧ Ext w w') := by
  refine calls_of (n := 44) (σ := [(0, (.slice a_l n_l c_l))]) Try.func34 rfl (by kernel_rfl) ?_
  replace h_l := h_l.now; have hle_l := h_l.le
  refine wpC_seq ?_
  refine wpC_region ?_
  refine wpF_step (op_new (d := (some 2)) (s := Instr.alloc 52 true (.tuple #[])) (.pointer (some ⟨w.heap.size, 0, none⟩)) (recC Rec.zero) 52 (by kernel_rfl) (by kernel_rfl) ?_)
  intro w1 hBw1 hEw1
  have hzw1 := hEw1.size; have hlw1 := hBw1.lt
  refine wpF_run 1 [(3, (.int .i64 ((0 : Nat) : Int)))] (by kernel_rfl) ?_
  refine wpF_end (by kernel_rfl) ?_
  refine then_code ?_
  refine wpC_seq ?_
  refine wpC_region ?_
  refine wpF_run 1 [(12, (.slice a_l n_l c_l))] (by kernel_rfl) ?_
  refine wpF_step (op_callAt (d := (some 13)) (by kernel_rfl) (c_readShort 45 _ (h_l.ext hEw1) (by omega)) ?_)
  rintro _ w2 ⟨rfl, hEw2⟩
  have hzw2 := hEw2.size
  refine wpF_run 5 [(5, (.int .i64 ((6 : Nat) : Int))), (4, .nilFunc), (15, (.int .i64 ((6 : Nat) : Int))), (14, .nilFunc), (11, (.tuple #[.nilFunc, (.int .i64 ((6 : Nat) : Int))]))] (by kernel_rfl) ?_
  refine wpF_end (by kernel_rfl) ?_
  refine then_code ?_
  refine wpC_seq ?_
  refine wpC_seq ?_
  refine wpC_region ?_
  refine wpF_run 2 [(17, (.bool true)), (16, (.int .i64 ((6 : Nat) : Int)))] (by kernel_rfl) ?_
  refine wpF_end (by kernel_rfl) ?_
  refine then_code ?_
  refine wpC_true (by kernel_rfl) ?_
  refine wpC_seq ?_
  refine wpC_region ?_
  refine wpF_run 2 [(19, (.int .i64 ((6 : Nat) : Int))), (18, (.agg (recC Rec.zero).toArray))] (by kernel_rfl) ?_
  refine wpF_step (op_store (d := none) 52 w.heap.size 0 52 (.agg (recC Rec.zero).toArray) (recC Rec.zero) (recC Rec.zero) (by kernel_rfl) (hBw1.ext hEw2) rfl (by rw [recC_len]; kernel_rfl) (by simp) (recC_one _) ?_)
  intro w3 hBw3 hCw3
  have hzw3 := hCw3.size
  rw [setFrom_all _ _ (by simp)] at hBw3
  refine wpF_run 1 [(3, (.int .i64 ((6 : Nat) : Int)))] (by kernel_rfl) ?_
  refine wpF_end (by kernel_rfl) ?_
  refine then_code ?_
  refine wpC_ret ?_
  refine then_ret ?_
  refine body_ret2 (by kernel_rfl) (show resVal Try.prog 44 _ _ (.cell 2 52) (.agg (recC Rec.zero).toArray) from ⟨⟨w.heap.size, 0, none⟩, (by kernel_rfl), run_loadVar_agg (T := 52) (vs := recC Rec.zero) (by kernel_rfl) (by rw [recC_len]; kernel_rfl) (hBw3).all⟩) (show resVal Try.prog 44 _ _ (.tmp 3) (.int .i64 ((6 : Nat) : Int)) by (show _ = _; kernel_rfl)) ?_
  exact ⟨rfl, (Ext.own (hEw1.trans hEw2) hCw3 (by omega))⟩

theorem c_GetRecordLong {lo_l hi_l : Nat} {a_l : Option Addr} {n_l c_l : Nat} {l : List UInt8}  (w : World) (h_l : Bs lo_l hi_l w a_l n_l c_l l) (hp0 : 45 < n_l) :
    Calls Try.prog 34 #[(.slice a_l n_l c_l)] w (Ret fun r w' => r = (.tuple #[(.agg (recC Rec.zero).toArray), (.int .i64 ((5 : Nat) : Int))]) ∧ Ext w w') := by
  refine calls_of (n := 44) (σ := [(0, (.slice a_l n_l c_l))]) Try.func34 rfl (by kernel_rfl) ?_
  replace h_l := h_l.now; have hle_l := h_l.le
  refine wpC_seq ?_
  refine wpC_region ?_
  refine wpF_step (op_new (d := (some 2)) (s := Instr.alloc 52 true (.tuple #[])) (.pointer (some ⟨w.heap.size, 0, none⟩)) (recC Rec.zero) 52 (by kernel_rfl) (by kernel_rfl) ?_)
  intro w1 hBw1 hEw1
  have hzw1 := hEw1.size; have hlw1 := hBw1.lt
  refine wpF_run 1 [(3, (.int .i64 ((0 : Nat) : Int)))] (by kernel_rfl) ?_
  refine wpF_end (by kernel_rfl) ?_
  refine then_code ?_
  refine wpC_seq ?_
  refine wpC_region ?_
  refine wpF_run 1 [(12, (.slice a_l n_l c_l))] (by kernel_rfl) ?_
  refine wpF_step (op_callAt (d := (some 13)) (by kernel_rfl) (c_readLong 45 _ (h_l.ext hEw1) (by omega)) ?_)
  rintro _ w2 ⟨rfl, hEw2⟩
  have hzw2 := hEw2.size
  refine wpF_run 5 [(5, (.int .i64 ((5 : Nat) : Int))), (4, .nilFunc), (15, (.int .i64 ((5 : Nat) : Int))), (14, .nilFunc), (11, (.tuple #[.nilFunc, (.int .i64 ((5 : Nat) : Int))]))] (by kernel_rfl) ?_
  refine wpF_end (by kernel_rfl) ?_
  refine then_code ?_
  refine wpC_seq ?_
  refine wpC_seq ?_
  refine wpC_region ?_
  refine wpF_run 2 [(17, (.bool true)), (16, (.int .i64 ((5 : Nat) : Int)))] (by kernel_rfl) ?_
  refine wpF_end (by kernel_rfl) ?_
  refine then_code ?_
  refine wpC_true (by kernel_rfl) ?_
  refine wpC_seq ?_
  refine wpC_region ?_
  refine wpF_run 2 [(19, (.int .i64 ((5 : Nat) : Int))), (18, (.agg (recC Rec.zero).toArray))] (by kernel_rfl) ?_
  refine wpF_step (op_store (d := none) 52 w.heap.size 0 52 (.agg (recC Rec.zero).toArray) (recC Rec.zero) (recC Rec.zero) (by kernel_rfl) (hBw1.ext hEw2) rfl (by rw [recC_len]; kernel_rfl) (by simp) (recC_one _) ?_)
  intro w3 hBw3 hCw3
  have hzw3 := hCw3.size
  rw [setFrom_all _ _ (by simp)] at hBw3
  refine wpF_run 1 [(3, (.int .i64 ((5 : Nat) : Int)))] (by kernel_rfl) ?_
  refine wpF_end (by kernel_rfl) ?_
  refine then_code ?_
  refine wpC_ret ?_
  refine then_ret ?_
  refine body_ret2 (by kernel_rfl) (show resVal Try.prog 44 _ _ (.cell 2 52) (.agg (recC Rec.zero).toArray) from ⟨⟨w.heap.size, 0, none⟩, (by kernel_rfl), run_loadVar_agg (T := 52) (vs := recC Rec.zero) (by kernel_rfl) (by rw [recC_len]; kernel_rfl) (hBw3).all⟩) (show resVal Try.prog 44 _ _ (.tmp 3) (.int .i64 ((5 : Nat) : Int)) by (show _ = _; kernel_rfl)) ?_
  exact ⟨rfl, (Ext.own (hEw1.trans hEw2) hCw3 (by omega))⟩

theorem c_GetRecord {lo_l hi_l : Nat} {a_l : Option Addr} {n_l c_l : Nat} {l : List UInt8}  (w : World) (h_l : Bs lo_l hi_l w a_l n_l c_l l) (hp0 : n_l = 45) (hp1 : chkR (Rec.of l) = 0) :
    Calls Try.prog 34 #[(.slice a_l n_l c_l)] w (Ret fun r w' => r = (.tuple #[(.agg (recC (Rec.of l)).toArray), (.int .i64 ((0 : Nat) : Int))]) ∧ Ext w w') := by
  refine calls_of (n := 44) (σ := [(0, (.slice a_l n_l c_l))]) Try.func34 rfl (by kernel_rfl) ?_
  replace h_l := h_l.now; have hle_l := h_l.le
  refine wpC_seq ?_
  refine wpC_region ?_
  refine wpF_step (op_new (d := (some 2)) (s := Instr.alloc 52 true (.tuple #[])) (.pointer (some ⟨w.heap.size, 0, none⟩)) (recC Rec.zero) 52 (by kernel_rfl) (by kernel_rfl) ?_)
  intro w1 hBw1 hEw1
  have hzw1 := hEw1.size; have hlw1 := hBw1.lt
  refine wpF_run 1 [(3, (.int .i64 ((0 : Nat) : Int)))] (by kernel_rfl) ?_
  refine wpF_end (by kernel_rfl) ?_
  refine then_code ?_
  refine wpC_seq ?_
  refine wpC_region ?_
  refine wpF_run 1 [(12, (.slice a_l n_l c_l))] (by kernel_rfl) ?_
  refine wpF_step (op_callAt (d := (some 13)) (by kernel_rfl) (c_read 45 _ (h_l.ext hEw1) (by omega)) ?_)
  rintro _ w2 ⟨a1, rfl, hFz1_0, hFz1_1, hEw2⟩
  have hzw2 := hEw2.size
  have hla1 := hFz1_1.lt
  refine wpF_run 5 [(5, (.int .i64 ((0 : Nat) : Int))), (4, (.func (.func 58) #[(.pointer (some ⟨a1, 0, none⟩))] #[])), (15, (.int .i64 ((0 : Nat) : Int))), (14, (.func (.func 58) #[(.pointer (some ⟨a1, 0, none⟩))] #[])), (11, (.tuple #[(.func (.func 58) #[(.pointer (some ⟨a1, 0, none⟩))] #[]), (.int .i64 ((0 : Nat) : Int))]))] (by kernel_rfl) ?_
  refine wpF_end (by kernel_rfl) ?_
  refine then_code ?_
  refine wpC_seq ?_
  refine wpC_seq ?_
  refine wpC_region ?_
  refine wpF_run 2 [(17, (.bool false)), (16, (.int .i64 ((0 : Nat) : Int)))] (by kernel_rfl) ?_
  refine wpF_end (by kernel_rfl) ?_
  refine then_code ?_
  refine wpC_false (by kernel_rfl) ?_
  refine wpC_skip ?_
  refine then_code ?_
  refine wpC_seq ?_
  refine wpC_region ?_
  refine wpF_run 1 [(20, (.func (.func 58) #[(.pointer (some ⟨a1, 0, none⟩))] #[]))] (by kernel_rfl) ?_
  refine wpF_step (op_callAt (d := (some 21)) (by kernel_rfl) (c_next 1 _ hFz1_1 (((h_l.ext hEw1)).ext hEw2) (by omega) (by omega)) ?_)
  rintro _ w3 ⟨a2, a3, rfl, hPw3, hBw3, hQw3, hCw3⟩
  have hzw3 := hCw3.size
  have hlew3 := hPw3.le; have hlew3q := hQw3.le
  obtain ⟨b1, o1, rfl⟩ := hPw3.addr (by omega)
  refine wpF_step (op_v (d := (some 22)) (s := Instr.indexAt 23 (.slice (some ⟨b1, o1, none⟩) 1 c_l) (.int .i64 ((0 : Nat) : Int))) (v := (.pointer (some ⟨b1, o1 + 0 * 1, none⟩))) (by kernel_rfl) (rn_ixs (E := 5) (sz := 1) (by kernel_rfl) (by kernel_rfl) (by omega)) ?_)
  refine wpF_step (op_v (d := (some 23)) (s := Instr.loadAt 5 (.pointer (some ⟨b1, o1 + 0 * 1, none⟩))) (v := (.int .u8 ((byt (l.take 1) 0 : Nat) : Int))) (by kernel_rfl) (rn_ld (by kernel_rfl) (hPw3.cell1 (by omega))) ?_)
  refine wpF_run 1 [(6, (.int .u8 ((byt (l.take 1) 0 : Nat) : Int)))] (by kernel_rfl) ?_
  refine wpF_end (by kernel_rfl) ?_
  refine then_code ?_
  refine wpC_seq ?_
  refine wpC_region ?_
  refine wpF_run 1 [(25, (.func (.func 58) #[(.pointer (some ⟨a1, 0, none⟩))] #[]))] (by kernel_rfl) ?_
  refine wpF_step (op_callAt (d := (some 26)) (by kernel_rfl) (c_next 12 _ hBw3 hQw3 (by omega) (by omega)) ?_)
  rintro _ w4 ⟨a4, a5, rfl, hPw4, hBw4, hQw4, hCw4⟩
  have hzw4 := hCw4.size
  have hlew4 := hPw4.le; have hlew4q := hQw4.le
  refine wpF_step (op_callAt (d := (some 27)) (by kernel_rfl) (c_nonceGet _ hPw4 (by omega)) ?_)
  rintro _ w5 ⟨rfl, hEw5⟩
  have hzw5 := hEw5.size
  refine wpF_run 3 [(29, (.int .i64 ((0 : Nat) : Int))), (28, (.agg (nonC (Non.of ((l.drop 1).take 12))).toArray)), (24, (.tuple #[(.agg (nonC (Non.of ((l.drop 1).take 12))).toArray), (.int .i64 ((0 : Nat) : Int))]))] (by kernel_rfl) ?_
  refine wpF_step (op_new (d := (some 7)) (s := Instr.alloc 48 true (.tuple #[])) (.pointer (some ⟨w5.heap.size, 0, none⟩)) (nonC Non.zero) 48 (by kernel_rfl) (by kernel_rfl) ?_)
  intro w6 hBw6 hEw6
  have hzw6 := hEw6.size; have hlw6 := hBw6.lt
  refine wpF_step (op_store (d := none) 48 w5.heap.size 0 48 (.agg (nonC (Non.of ((l.drop 1).take 12))).toArray) (nonC Non.zero) (nonC (Non.of ((l.drop 1).take 12))) (by kernel_rfl) hBw6 rfl (by rw [nonC_len]; kernel_rfl) (by simp) (nonC_one _) ?_)
  intro w7 hBw7 hCw7
  have hzw7 := hCw7.size
  rw [setFrom_all _ _ (by simp)] at hBw7
  refine wpF_run 1 [(8, (.int .i64 ((0 : Nat) : Int)))] (by kernel_rfl) ?_
  refine wpF_end (by kernel_rfl) ?_
  refine then_code ?_
  refine wpC_seq ?_
  refine wpC_drawM (Chg (fun k => k = a1) w7.drew) 9 [(31, 64, 0), (32, 128, 0), (33, 16, 0), (34, 4294967296, 4), (35, 8589934592, 8), (36, 17179869184, 16), (37, 37580963840, 35), (10, 0, 0), (0, 68719477248, 255)] (by kernel_rfl) ⟨by kernel_rfl, by kernel_rfl, by kernel_rfl⟩ (fun hT608 => ?_)
  have hEw8 : Ext w7 w7.drew := Ext.drew w7
  generalize w7.drew = w8 at hEw8 ⊢
  have hzw8 := hEw8.size
  refine anyM_run hT608 0 1 [(30, (.int .u8 ((byt (l.take 1) 0 : Nat) : Int)))] (QPan.then put_panic_bodyPost) (by kernel_rfl) (by kernel_rfl) (show Chg (fun k => k = a1) w8 w8 from (Chg.refl (fun k => k = a1) w8)) (fun _ => by kernel_rfl) ?_
  refine anyM_take hT608 1 3 (some 31) (.agg (nonC (Non.of ((l.drop 1).take 12))).toArray) (QPan.then put_panic_bodyPost) (by kernel_rfl) (by kernel_rfl) (show Chg (fun k => k = a1) w8 w8 from (Chg.refl (fun k => k = a1) w8)) (yld_val (s := Instr.loadAt 48 (.pointer (some ⟨w5.heap.size, 0, none⟩))) (by kernel_rfl) (fun w' hC => rn_lda (vs := nonC (Non.of ((l.drop 1).take 12))) (by kernel_rfl) (by rw [nonC_len]; kernel_rfl) (((hBw7.ext hEw8).chg hC (fun hs => by have h : _ = _ := hs; omega)).all))) ?_
  refine anyM_run hT608 2 7 [(32, (.func (.func 58) #[(.pointer (some ⟨a1, 0, none⟩))] #[]))] (QPan.then put_panic_bodyPost) (by kernel_rfl) (by kernel_rfl) (show Chg (fun k => k = a1) w8 w8 from (Chg.refl (fun k => k = a1) w8)) (fun _ => by kernel_rfl) ?_
  refine anyM_two 3 7 15 135 (by kernel_rfl) (by kernel_rfl) (by kernel_rfl) ?_ ?_
  · refine op_callAt (d := (some 33)) (by kernel_rfl) (c_next 32 _ (((((((hBw4.ext hEw5)).ext hEw6)).chg hCw7 (fun hs => by have h : _ = _ := hs; omega))).ext hEw8) (((((((hQw4.ext hEw5)).ext hEw6)).chg hCw7 (fun k h1 h2 hs => by have h : k = _ := hs; omega))).ext hEw8) (by omega) (by omega)) ?_
    rintro _ w9 ⟨a6, a7, rfl, hPw9, hBw9, hQw9, hCw9⟩
    have hzw9 := hCw9.size
    have hlew9 := hPw9.le; have hlew9q := hQw9.le
    refine ⟨.inr (Chg.then (Chg.refl (fun k => k = a1) w8) hCw9 (fun k hk hs => by have h : k = _ := hs; first | exact hs | (exfalso; omega))), ?_⟩
    obtain ⟨b2, o2, rfl⟩ := hPw9.addr (by omega)
    refine anyM_take hT608 4 31 (some 34) (.pointer (some ⟨b2, o2, none⟩)) (QPan.then put_panic_bodyPost) (by kernel_rfl) (by kernel_rfl) (show Chg (fun k => k = a1) w8 w9 from (Chg.then (Chg.refl (fun k => k = a1) w8) hCw9 (fun k hk hs => by have h : k = _ := hs; first | exact hs | (exfalso; omega)))) (yld_val (s := Instr.arrayAt 50 (.slice (some ⟨b2, o2, none⟩) 32 (c_l - 1 - 12))) (by kernel_rfl) (fun w' hC => run_arrPtr (m := 32) (E := 5) (by kernel_rfl) (by omega))) ?_
    refine anyM_class (C := Chg (fun k => k = a1) w8) (C' := Chg (fun k => k = a1) w9) (fun w' h => ((Chg.then (Chg.refl (fun k => k = a1) w8) hCw9 (fun k hk hs => by have h : k = _ := hs; first | exact hs | (exfalso; omega)))).trans h) ?_
    refine anyM_take hT608 5 63 (some 35) (.agg (digC (Dig.of (((l.drop 1).drop 12).take 32))).toArray) (QPan.then put_panic_bodyPost) (by kernel_rfl) (by kernel_rfl) (show Chg (fun k => k = a1) w9 w9 from (Chg.refl (fun k => k = a1) w9)) (yld_val (s := Instr.loadAt 50 (.pointer (some ⟨b2, o2, none⟩))) (by kernel_rfl) (fun w' hC => rn_lda (vs := digC (Dig.of (((l.drop 1).drop 12).take 32))) (by kernel_rfl) (by rw [digC_len]; kernel_rfl) ((hPw9.chg hC (fun k h1 h2 hs => by have h : _ = _ := hs; omega)).atDig (by have := h_l.len_eq; simp; omega)))) ?_
    refine anyM_take hT608 6 127 (some 36) (.agg (recC (Rec.of l)).toArray) (QPan.then put_panic_bodyPost) (by kernel_rfl) (by kernel_rfl) (show Chg (fun k => k = a1) w9 w9 from (Chg.refl (fun k => k = a1) w9)) (yld_val (s := Instr.build 52 #[(0, (.int .u8 ((byt (l.take 1) 0 : Nat) : Int))), (1, (.agg (nonC (Non.of ((l.drop 1).take 12))).toArray)), (2, (.agg (digC (Dig.of (((l.drop 1).drop 12).take 32))).toArray))]) (by kernel_rfl) (fun w' hC => (run_build_rec (byt (l.take 1) 0) (Non.of ((l.drop 1).take 12)) (Dig.of (((l.drop 1).drop 12).take 32)) (byt_lt _ _) (by kernel_rfl) (by kernel_rfl)).trans (congrArg (fun z : Rec => Result.ok (Value.agg (recC z).toArray) _) (show (⟨byt (l.take 1) 0, (Non.of ((l.drop 1).take 12)), (Dig.of (((l.drop 1).drop 12).take 32)), byt_lt _ _⟩ : Rec) = Rec.of l from Rec.ext' (byt_take1 l) rfl (congrArg Dig.of (by rw [List.drop_drop])))))) ?_
    refine anyM_one 7 255 (by kernel_rfl) (by kernel_rfl) (op_new (d := (some 9)) (s := Instr.alloc 52 true (.tuple #[])) (.pointer (some ⟨w9.heap.size, 0, none⟩)) (recC Rec.zero) 52 (by kernel_rfl) (by kernel_rfl) ?_)
    intro w10 hBw10 hEw10
    have hzw10 := hEw10.size; have hlw10 := hBw10.lt
    refine ⟨.inr ((Chg.refl (fun k => k = a1) w9).trans hEw10.chg), ?_⟩
    refine anyM_one 8 511 (by kernel_rfl) (by kernel_rfl) (op_store (d := none) 52 w9.heap.size 0 52 (.agg (recC (Rec.of l)).toArray) (recC Rec.zero) (recC (Rec.of l)) (by kernel_rfl) hBw10 rfl (by rw [recC_len]; kernel_rfl) (by simp) (recC_one _) ?_)
    intro w11 hBw11 hCw11
    have hzw11 := hCw11.size
    rw [setFrom_all _ _ (by simp)] at hBw11
    refine ⟨.inl (by kernel_rfl), ?_⟩
    refine anyM_done (by kernel_rfl) ?_
    refine then_code ?_
    refine wpC_seq ?_
    refine wpC_seq ?_
    refine wpC_region ?_
    refine wpF_step (op_v (d := (some 37)) (s := Instr.loadAt 52 (.pointer (some ⟨w9.heap.size, 0, none⟩))) (v := (.agg (recC (Rec.of l)).toArray)) (by kernel_rfl) (rn_lda (vs := recC (Rec.of l)) (by kernel_rfl) (by rw [recC_len]; kernel_rfl) (hBw11.all)) ?_)
    refine wpF_step (op_callAt (d := (some 38)) (by kernel_rfl) (c_CheckRecord (Rec.of l) _) ?_)
    rintro _ w12 ⟨rfl, hEw12⟩
    have hzw12 := hEw12.size
    refine wpF_run 1 [(10, (.int .i64 ((chkR (Rec.of l) : Nat) : Int)))] (by kernel_rfl) ?_
    refine wpF_end (by kernel_rfl) ?_
    refine then_code ?_
    refine wpC_seq ?_
    refine wpC_region ?_
    refine wpF_run 1 [(39, (.int .i64 ((chkR (Rec.of l) : Nat) : Int)))] (by kernel_rfl) ?_
    refine wpF_step (op_eqv (d := (some 40)) (.bool ((((chkR (Rec.of l) : Nat) : Int) != ((0 : Nat) : Int)))) (.bool false) (by kernel_rfl) (congrArg Value.bool (cmpNeF (by omega))) ?_)
    refine wpF_end (by kernel_rfl) ?_
    refine then_code ?_
    refine wpC_false (by kernel_rfl) ?_
    refine wpC_skip ?_
    refine then_code ?_
    refine wpC_seq ?_
    refine wpC_region ?_
    refine wpF_step (op_v (d := (some 43)) (s := Instr.loadAt 52 (.pointer (some ⟨w9.heap.size, 0, none⟩))) (v := (.agg (recC (Rec.of l)).toArray)) (by kernel_rfl) (rn_lda (vs := recC (Rec.of l)) (by kernel_rfl) (by rw [recC_len]; kernel_rfl) ((hBw11.ext hEw12).all)) ?_)
    refine wpF_step (op_store (d := none) 52 w.heap.size 0 52 (.agg (recC (Rec.of l)).toArray) (recC Rec.zero) (recC (Rec.of l)) (by kernel_rfl) (((((((((((((((((((((hBw1.ext hEw2)).chg hCw3 (fun hs => by have h : _ = _ := hs; omega))).chg hCw4 (fun hs => by have h : _ = _ := hs; omega))).ext hEw5)).ext hEw6)).chg hCw7 (fun hs => by have h : _ = _ := hs; omega))).ext hEw8)).chg hCw9 (fun hs => by have h : _ = _ := hs; omega))).ext hEw10)).chg hCw11 (fun hs => by have h : _ = _ := hs; omega))).ext hEw12) rfl (by rw [recC_len]; kernel_rfl) (by simp) (recC_one _) ?_)
    intro w13 hBw13 hCw13
    have hzw13 := hCw13.size
    rw [setFrom_all _ _ (by simp)] at hBw13
    refine wpF_run 1 [(3, (.int .i64 ((0 : Nat) : Int)))] (by kernel_rfl) ?_
    refine wpF_end (by kernel_rfl) ?_
    refine then_code ?_
    refine wpC_ret ?_
    refine body_ret2 (by kernel_rfl) (show resVal Try.prog 44 _ _ (.cell 2 52) (.agg (recC (Rec.of l)).toArray) from ⟨⟨w.heap.size, 0, none⟩, (by kernel_rfl), run_loadVar_agg (T := 52) (vs := recC (Rec.of l)) (by kernel_rfl) (by rw [recC_len]; kernel_rfl) (hBw13).all⟩) (show resVal Try.prog 44 _ _ (.tmp 3) (.int .i64 ((0 : Nat) : Int)) by (show _ = _; kernel_rfl)) ?_
    exact ⟨rfl, (Ext.own ((Ext.own ((Ext.own ((Ext.own (((Ext.own (Ext.own (hEw1.trans hEw2) hCw3 (by omega)) hCw4 (by omega)).trans hEw5).trans hEw6) hCw7 (by omega)).trans hEw8) hCw9 (by omega)).trans hEw10) hCw11 (by omega)).trans hEw12) hCw13 (by omega))⟩
  · refine op_new (d := (some 9)) (s := Instr.alloc 52 true (.tuple #[])) (.pointer (some ⟨w8.heap.size, 0, none⟩)) (recC Rec.zero) 52 (by kernel_rfl) (by kernel_rfl) ?_
    intro w14 hBw14 hEw14
    have hzw14 := hEw14.size; have hlw14 := hBw14.lt
    refine ⟨.inr ((Chg.refl (fun k => k = a1) w8).trans hEw14.chg), ?_⟩
    refine anyM_one 3 143 (by kernel_rfl) (by kernel_rfl) (op_callAt (d := (some 33)) (by kernel_rfl) (c_next 32 _ (((((((((hBw4.ext hEw5)).ext hEw6)).chg hCw7 (fun hs => by have h : _ = _ := hs; omega))).ext hEw8)).ext hEw14) (((((((((hQw4.ext hEw5)).ext hEw6)).chg hCw7 (fun k h1 h2 hs => by have h : k = _ := hs; omega))).ext hEw8)).ext hEw14) (by omega) (by omega)) ?_)
    rintro _ w15 ⟨a8, a9, rfl, hPw15, hBw15, hQw15, hCw15⟩
    have hzw15 := hCw15.size
    have hlew15 := hPw15.le; have hlew15q := hQw15.le
    refine ⟨.inr (Chg.then ((Chg.refl (fun k => k = a1) w8).trans hEw14.chg) hCw15 (fun k hk hs => by have h : k = _ := hs; first | exact hs | (exfalso; omega))), ?_⟩
    obtain ⟨b3, o3, rfl⟩ := hPw15.addr (by omega)
    refine anyM_take hT608 4 159 (some 34) (.pointer (some ⟨b3, o3, none⟩)) (QPan.then put_panic_bodyPost) (by kernel_rfl) (by kernel_rfl) (show Chg (fun k => k = a1) w8 w15 from (Chg.then ((Chg.refl (fun k => k = a1) w8).trans hEw14.chg) hCw15 (fun k hk hs => by have h : k = _ := hs; first | exact hs | (exfalso; omega)))) (yld_val (s := Instr.arrayAt 50 (.slice (some ⟨b3, o3, none⟩) 32 (c_l - 1 - 12))) (by kernel_rfl) (fun w' hC => run_arrPtr (m := 32) (E := 5) (by kernel_rfl) (by omega))) ?_
    refine anyM_class (C := Chg (fun k => k = a1) w8) (C' := Chg (fun k => k = a1) w15) (fun w' h => ((Chg.then ((Chg.refl (fun k => k = a1) w8).trans hEw14.chg) hCw15 (fun k hk hs => by have h : k = _ := hs; first | exact hs | (exfalso; omega)))).trans h) ?_
    refine anyM_take hT608 5 191 (some 35) (.agg (digC (Dig.of (((l.drop 1).drop 12).take 32))).toArray) (QPan.then put_panic_bodyPost) (by kernel_rfl) (by kernel_rfl) (show Chg (fun k => k = a1) w15 w15 from (Chg.refl (fun k => k = a1) w15)) (yld_val (s := Instr.loadAt 50 (.pointer (some ⟨b3, o3, none⟩))) (by kernel_rfl) (fun w' hC => rn_lda (vs := digC (Dig.of (((l.drop 1).drop 12).take 32))) (by kernel_rfl) (by rw [digC_len]; kernel_rfl) ((hPw15.chg hC (fun k h1 h2 hs => by have h : _ = _ := hs; omega)).atDig (by have := h_l.len_eq; simp; omega)))) ?_
    refine anyM_take hT608 6 255 (some 36) (.agg (recC (Rec.of l)).toArray) (QPan.then put_panic_bodyPost) (by kernel_rfl) (by kernel_rfl) (show Chg (fun k => k = a1) w15 w15 from (Chg.refl (fun k => k = a1) w15)) (yld_val (s := Instr.build 52 #[(0, (.int .u8 ((byt (l.take 1) 0 : Nat) : Int))), (1, (.agg (nonC (Non.of ((l.drop 1).take 12))).toArray)), (2, (.agg (digC (Dig.of (((l.drop 1).drop 12).take 32))).toArray))]) (by kernel_rfl) (fun w' hC => (run_build_rec (byt (l.take 1) 0) (Non.of ((l.drop 1).take 12)) (Dig.of (((l.drop 1).drop 12).take 32)) (byt_lt _ _) (by kernel_rfl) (by kernel_rfl)).trans (congrArg (fun z : Rec => Result.ok (Value.agg (recC z).toArray) _) (show (⟨byt (l.take 1) 0, (Non.of ((l.drop 1).take 12)), (Dig.of (((l.drop 1).drop 12).take 32)), byt_lt _ _⟩ : Rec) = Rec.of l from Rec.ext' (byt_take1 l) rfl (congrArg Dig.of (by rw [List.drop_drop])))))) ?_
    refine anyM_one 8 511 (by kernel_rfl) (by kernel_rfl) (op_store (d := none) 52 w8.heap.size 0 52 (.agg (recC (Rec.of l)).toArray) (recC Rec.zero) (recC (Rec.of l)) (by kernel_rfl) ((hBw14).chg hCw15 (fun hs => by have h : _ = _ := hs; omega)) rfl (by rw [recC_len]; kernel_rfl) (by simp) (recC_one _) ?_)
    intro w16 hBw16 hCw16
    have hzw16 := hCw16.size
    rw [setFrom_all _ _ (by simp)] at hBw16
    refine ⟨.inl (by kernel_rfl), ?_⟩
    refine anyM_done (by kernel_rfl) ?_
    refine then_code ?_
    refine wpC_seq ?_
    refine wpC_seq ?_
    refine wpC_region ?_
    refine wpF_step (op_v (d := (some 37)) (s := Instr.loadAt 52 (.pointer (some ⟨w8.heap.size, 0, none⟩))) (v := (.agg (recC (Rec.of l)).toArray)) (by kernel_rfl) (rn_lda (vs := recC (Rec.of l)) (by kernel_rfl) (by rw [recC_len]; kernel_rfl) (hBw16.all)) ?_)
    refine wpF_step (op_callAt (d := (some 38)) (by kernel_rfl) (c_CheckRecord (Rec.of l) _) ?_)
    rintro _ w17 ⟨rfl, hEw17⟩
    have hzw17 := hEw17.size
    refine wpF_run 1 [(10, (.int .i64 ((chkR (Rec.of l) : Nat) : Int)))] (by kernel_rfl) ?_
    refine wpF_end (by kernel_rfl) ?_
    refine then_code ?_
    refine wpC_seq ?_
    refine wpC_region ?_
    refine wpF_run 1 [(39, (.int .i64 ((chkR (Rec.of l) : Nat) : Int)))] (by kernel_rfl) ?_
    refine wpF_step (op_eqv (d := (some 40)) (.bool ((((chkR (Rec.of l) : Nat) : Int) != ((0 : Nat) : Int)))) (.bool false) (by kernel_rfl) (congrArg Value.bool (cmpNeF (by omega))) ?_)
    refine wpF_end (by kernel_rfl) ?_
    refine then_code ?_
    refine wpC_false (by kernel_rfl) ?_
    refine wpC_skip ?_
    refine then_code ?_
    refine wpC_seq ?_
    refine wpC_region ?_
    refine wpF_step (op_v (d := (some 43)) (s := Instr.loadAt 52 (.pointer (some ⟨w8.heap.size, 0, none⟩))) (v := (.agg (recC (Rec.of l)).toArray)) (by kernel_rfl) (rn_lda (vs := recC (Rec.of l)) (by kernel_rfl) (by rw [recC_len]; kernel_rfl) ((hBw16.ext hEw17).all)) ?_)
    refine wpF_step (op_store (d := none) 52 w.heap.size 0 52 (.agg (recC (Rec.of l)).toArray) (recC Rec.zero) (recC (Rec.of l)) (by kernel_rfl) (((((((((((((((((((((hBw1.ext hEw2)).chg hCw3 (fun hs => by have h : _ = _ := hs; omega))).chg hCw4 (fun hs => by have h : _ = _ := hs; omega))).ext hEw5)).ext hEw6)).chg hCw7 (fun hs => by have h : _ = _ := hs; omega))).ext hEw8)).ext hEw14)).chg hCw15 (fun hs => by have h : _ = _ := hs; omega))).chg hCw16 (fun hs => by have h : _ = _ := hs; omega))).ext hEw17) rfl (by rw [recC_len]; kernel_rfl) (by simp) (recC_one _) ?_)
    intro w18 hBw18 hCw18
    have hzw18 := hCw18.size
    rw [setFrom_all _ _ (by simp)] at hBw18
    refine wpF_run 1 [(3, (.int .i64 ((0 : Nat) : Int)))] (by kernel_rfl) ?_
    refine wpF_end (by kernel_rfl) ?_
    refine then_code ?_
    refine wpC_ret ?_
    refine body_ret2 (by kernel_rfl) (show resVal Try.prog 44 _ _ (.cell 2 52) (.agg (recC (Rec.of l)).toArray) from ⟨⟨w.heap.size, 0, none⟩, (by kernel_rfl), run_loadVar_agg (T := 52) (vs := recC (Rec.of l)) (by kernel_rfl) (by rw [recC_len]; kernel_rfl) (hBw18).all⟩) (show resVal Try.prog 44 _ _ (.tmp 3) (.int .i64 ((0 : Nat) : Int)) by (show _ = _; kernel_rfl)) ?_
    exact ⟨rfl, (Ext.own ((Ext.own (Ext.own (((Ext.own (((Ext.own (Ext.own (hEw1.trans hEw2) hCw3 (by omega)) hCw4 (by omega)).trans hEw5).trans hEw6) hCw7 (by omega)).trans hEw8).trans hEw14) hCw15 (by omega)) hCw16 (by omega)).trans hEw17) hCw18 (by omega))⟩

theorem c_GetRecordBad {lo_l hi_l : Nat} {a_l : Option Addr} {n_l c_l : Nat} {l : List UInt8}  (w : World) (h_l : Bs lo_l hi_l w a_l n_l c_l l) (hp0 : n_l = 45) (hp1 : chkR (Rec.of l) = 1) :
    Calls Try.prog 34 #[(.slice a_l n_l c_l)] w (Ret fun r w' => r = (.tuple #[(.agg (recC Rec.zero).toArray), (.int .i64 ((1 : Nat) : Int))]) ∧ Ext w w') := by
  refine calls_of (n := 44) (σ := [(0, (.slice a_l n_l c_l))]) Try.func34 rfl (by kernel_rfl) ?_
  replace h_l := h_l.now; have hle_l := h_l.le
  refine wpC_seq ?_
  refine wpC_region ?_
  refine wpF_step (op_new (d := (some 2)) (s := Instr.alloc 52 true (.tuple #[])) (.pointer (some ⟨w.heap.size, 0, none⟩)) (recC Rec.zero) 52 (by kernel_rfl) (by kernel_rfl) ?_)
  intro w1 hBw1 hEw1
  have hzw1 := hEw1.size; have hlw1 := hBw1.lt
  refine wpF_run 1 [(3, (.int .i64 ((0 : Nat) : Int)))] (by kernel_rfl) ?_
  refine wpF_end (by kernel_rfl) ?_
  refine then_code ?_
  refine wpC_seq ?_
  refine wpC_region ?_
  refine wpF_run 1 [(12, (.slice a_l n_l c_l))] (by kernel_rfl) ?_
  refine wpF_step (op_callAt (d := (some 13)) (by kernel_rfl) (c_read 45 _ (h_l.ext hEw1) (by omega)) ?_)
  rintro _ w2 ⟨a1, rfl, hFz1_0, hFz1_1, hEw2⟩
  have hzw2 := hEw2.size
  have hla1 := hFz1_1.lt
  refine wpF_run 5 [(5, (.int .i64 ((0 : Nat) : Int))), (4, (.func (.func 58) #[(.pointer (some ⟨a1, 0, none⟩))] #[])), (15, (.int .i64 ((0 : Nat) : Int))), (14, (.func (.func 58) #[(.pointer (some ⟨a1, 0, none⟩))] #[])), (11, (.tuple #[(.func (.func 58) #[(.pointer (some ⟨a1, 0, none⟩))] #[]), (.int .i64 ((0 : Nat) : Int))]))] (by kernel_rfl) ?_
  refine wpF_end (by kernel_rfl) ?_
  refine then_code ?_
  refine wpC_seq ?_
  refine wpC_seq ?_
  refine wpC_region ?_
  refine wpF_run 2 [(17, (.bool false)), (16, (.int .i64 ((0 : Nat) : Int)))] (by kernel_rfl) ?_
  refine wpF_end (by kernel_rfl) ?_
  refine then_code ?_
  refine wpC_false (by kernel_rfl) ?_
  refine wpC_skip ?_
  refine then_code ?_
  refine wpC_seq ?_
  refine wpC_region ?_
  refine wpF_run 1 [(20, (.func (.func 58) #[(.pointer (some ⟨a1, 0, none⟩))] #[]))] (by kernel_rfl) ?_
  refine wpF_step (op_callAt (d := (some 21)) (by kernel_rfl) (c_next 1 _ hFz1_1 (((h_l.ext hEw1)).ext hEw2) (by omega) (by omega)) ?_)
  rintro _ w3 ⟨a2, a3, rfl, hPw3, hBw3, hQw3, hCw3⟩
  have hzw3 := hCw3.size
  have hlew3 := hPw3.le; have hlew3q := hQw3.le
  obtain ⟨b1, o1, rfl⟩ := hPw3.addr (by omega)
  refine wpF_step (op_v (d := (some 22)) (s := Instr.indexAt 23 (.slice (some ⟨b1, o1, none⟩) 1 c_l) (.int .i64 ((0 : Nat) : Int))) (v := (.pointer (some ⟨b1, o1 + 0 * 1, none⟩))) (by kernel_rfl) (rn_ixs (E := 5) (sz := 1) (by kernel_rfl) (by kernel_rfl) (by omega)) ?_)
  refine wpF_step (op_v (d := (some 23)) (s := Instr.loadAt 5 (.pointer (some ⟨b1, o1 + 0 * 1, none⟩))) (v := (.int .u8 ((byt (l.take 1) 0 : Nat) : Int))) (by kernel_rfl) (rn_ld (by kernel_rfl) (hPw3.cell1 (by omega))) ?_)
  refine wpF_run 1 [(6, (.int .u8 ((byt (l.take 1) 0 : Nat) : Int)))] (by kernel_rfl) ?_
  refine wpF_end (by kernel_rfl) ?_
  refine then_code ?_
  refine wpC_seq ?_
  refine wpC_region ?_
  refine wpF_run 1 [(25, (.func (.func 58) #[(.pointer (some ⟨a1, 0, none⟩))] #[]))] (by kernel_rfl) ?_
  refine wpF_step (op_callAt (d := (some 26)) (by kernel_rfl) (c_next 12 _ hBw3 hQw3 (by omega) (by omega)) ?_)
  rintro _ w4 ⟨a4, a5, rfl, hPw4, hBw4, hQw4, hCw4⟩
  have hzw4 := hCw4.size
  have hlew4 := hPw4.le; have hlew4q := hQw4.le
  refine wpF_step (op_callAt (d := (some 27)) (by kernel_rfl) (c_nonceGet _ hPw4 (by omega)) ?_)
  rintro _ w5 ⟨rfl, hEw5⟩
  have hzw5 := hEw5.size
  refine wpF_run 3 [(29, (.int .i64 ((0 : Nat) : Int))), (28, (.agg (nonC (Non.of ((l.drop 1).take 12))).toArray)), (24, (.tuple #[(.agg (nonC (Non.of ((l.drop 1).take 12))).toArray), (.int .i64 ((0 : Nat) : Int))]))] (by kernel_rfl) ?_
  refine wpF_step (op_new (d := (some 7)) (s := Instr.alloc 48 true (.tuple #[])) (.pointer (some ⟨w5.heap.size, 0, none⟩)) (nonC Non.zero) 48 (by kernel_rfl) (by kernel_rfl) ?_)
  intro w6 hBw6 hEw6
  have hzw6 := hEw6.size; have hlw6 := hBw6.lt
  refine wpF_step (op_store (d := none) 48 w5.heap.size 0 48 (.agg (nonC (Non.of ((l.drop 1).take 12))).toArray) (nonC Non.zero) (nonC (Non.of ((l.drop 1).take 12))) (by kernel_rfl) hBw6 rfl (by rw [nonC_len]; kernel_rfl) (by simp) (nonC_one _) ?_)
  intro w7 hBw7 hCw7
  have hzw7 := hCw7.size
  rw [setFrom_all _ _ (by simp)] at hBw7
  refine wpF_run 1 [(8, (.int .i64 ((0 : Nat) : Int)))] (by kernel_rfl) ?_
  refine wpF_end (by kernel_rfl) ?_
  refine then_code ?_
  refine wpC_seq ?_
  refine wpC_drawM (Chg (fun k => k = a1) w7.drew) 9 [(31, 64, 0), (32, 128, 0), (33, 16, 0), (34, 4294967296, 4), (35, 8589934592, 8), (36, 17179869184, 16), (37, 37580963840, 35), (10, 0, 0), (0, 68719477248, 255)] (by kernel_rfl) ⟨by kernel_rfl, by kernel_rfl, by kernel_rfl⟩ (fun hT789 => ?_)
  have hEw8 : Ext w7 w7.drew := Ext.drew w7
  generalize w7.drew = w8 at hEw8 ⊢
  have hzw8 := hEw8.size
  refine anyM_run hT789 0 1 [(30, (.int .u8 ((byt (l.take 1) 0 : Nat) : Int)))] (QPan.then put_panic_bodyPost) (by kernel_rfl) (by kernel_rfl) (show Chg (fun k => k = a1) w8 w8 from (Chg.refl (fun k => k = a1) w8)) (fun _ => by kernel_rfl) ?_
  refine anyM_take hT789 1 3 (some 31) (.agg (nonC (Non.of ((l.drop 1).take 12))).toArray) (QPan.then put_panic_bodyPost) (by kernel_rfl) (by kernel_rfl) (show Chg (fun k => k = a1) w8 w8 from (Chg.refl (fun k => k = a1) w8)) (yld_val (s := Instr.loadAt 48 (.pointer (some ⟨w5.heap.size, 0, none⟩))) (by kernel_rfl) (fun w' hC => rn_lda (vs := nonC (Non.of ((l.drop 1).take 12))) (by kernel_rfl) (by rw [nonC_len]; kernel_rfl) (((hBw7.ext hEw8).chg hC (fun hs => by have h : _ = _ := hs; omega)).all))) ?_
  refine anyM_run hT789 2 7 [(32, (.func (.func 58) #[(.pointer (some ⟨a1, 0, none⟩))] #[]))] (QPan.then put_panic_bodyPost) (by kernel_rfl) (by kernel_rfl) (show Chg (fun k => k = a1) w8 w8 from (Chg.refl (fun k => k = a1) w8)) (fun _ => by kernel_rfl) ?_
  refine anyM_two 3 7 15 135 (by kernel_rfl) (by kernel_rfl) (by kernel_rfl) ?_ ?_
  · refine op_callAt (d := (some 33)) (by kernel_rfl) (c_next 32 _ (((((((hBw4.ext hEw5)).ext hEw6)).chg hCw7 (fun hs => by have h : _ = _ := hs; omega))).ext hEw8) (((((((hQw4.ext hEw5)).ext hEw6)).chg hCw7 (fun k h1 h2 hs => by have h : k = _ := hs; omega))).ext hEw8) (by omega) (by omega)) ?_
    rintro _ w9 ⟨a6, a7, rfl, hPw9, hBw9, hQw9, hCw9⟩
    have hzw9 := hCw9.size
    have hlew9 := hPw9.le; have hlew9q := hQw9.le
    refine ⟨.inr (Chg.then (Chg.refl (fun k => k = a1) w8) hCw9 (fun k hk hs => by have h : k = _ := hs; first | exact hs | (exfalso; omega))), ?_⟩
    obtain ⟨b2, o2, rfl⟩ := hPw9.addr (by omega)
    refine anyM_take hT789 4 31 (some 34) (.pointer (some ⟨b2, o2, none⟩)) (QPan.then put_panic_bodyPost) (by kernel_rfl) (by kernel_rfl) (show Chg (fun k => k = a1) w8 w9 from (Chg.then (Chg.refl (fun k => k = a1) w8) hCw9 (fun k hk hs => by have h : k = _ := hs; first | exact hs | (exfalso; omega)))) (yld_val (s := Instr.arrayAt 50 (.slice (some ⟨b2, o2, none⟩) 32 (c_l - 1 - 12))) (by kernel_rfl) (fun w' hC => run_arrPtr (m := 32) (E := 5) (by kernel_rfl) (by omega))) ?_
    refine anyM_class (C := Chg (fun k => k = a1) w8) (C' := Chg (fun k => k = a1) w9) (fun w' h => ((Chg.then (Chg.refl (fun k => k = a1) w8) hCw9 (fun k hk hs => by have h : k = _ := hs; first | exact hs | (exfalso; omega)))).trans h) ?_
    refine anyM_take hT789 5 63 (some 35) (.agg (digC (Dig.of (((l.drop 1).drop 12).take 32))).toArray) (QPan.then put_panic_bodyPost) (by kernel_rfl) (by kernel_rfl) (show Chg (fun k => k = a1) w9 w9 from (Chg.refl (fun k => k = a1) w9)) (yld_val (s := Instr.loadAt 50 (.pointer (some ⟨b2, o2, none⟩))) (by kernel_rfl) (fun w' hC => rn_lda (vs := digC (Dig.of (((l.drop 1).drop 12).take 32))) (by kernel_rfl) (by rw [digC_len]; kernel_rfl) ((hPw9.chg hC (fun k h1 h2 hs => by have h : _ = _ := hs; omega)).atDig (by have := h_l.len_eq; simp; omega)))) ?_
    refine anyM_take hT789 6 127 (some 36) (.agg (recC (Rec.of l)).toArray) (QPan.then put_panic_bodyPost) (by kernel_rfl) (by kernel_rfl) (show Chg (fun k => k = a1) w9 w9 from (Chg.refl (fun k => k = a1) w9)) (yld_val (s := Instr.build 52 #[(0, (.int .u8 ((byt (l.take 1) 0 : Nat) : Int))), (1, (.agg (nonC (Non.of ((l.drop 1).take 12))).toArray)), (2, (.agg (digC (Dig.of (((l.drop 1).drop 12).take 32))).toArray))]) (by kernel_rfl) (fun w' hC => (run_build_rec (byt (l.take 1) 0) (Non.of ((l.drop 1).take 12)) (Dig.of (((l.drop 1).drop 12).take 32)) (byt_lt _ _) (by kernel_rfl) (by kernel_rfl)).trans (congrArg (fun z : Rec => Result.ok (Value.agg (recC z).toArray) _) (show (⟨byt (l.take 1) 0, (Non.of ((l.drop 1).take 12)), (Dig.of (((l.drop 1).drop 12).take 32)), byt_lt _ _⟩ : Rec) = Rec.of l from Rec.ext' (byt_take1 l) rfl (congrArg Dig.of (by rw [List.drop_drop])))))) ?_
    refine anyM_one 7 255 (by kernel_rfl) (by kernel_rfl) (op_new (d := (some 9)) (s := Instr.alloc 52 true (.tuple #[])) (.pointer (some ⟨w9.heap.size, 0, none⟩)) (recC Rec.zero) 52 (by kernel_rfl) (by kernel_rfl) ?_)
    intro w10 hBw10 hEw10
    have hzw10 := hEw10.size; have hlw10 := hBw10.lt
    refine ⟨.inr ((Chg.refl (fun k => k = a1) w9).trans hEw10.chg), ?_⟩
    refine anyM_one 8 511 (by kernel_rfl) (by kernel_rfl) (op_store (d := none) 52 w9.heap.size 0 52 (.agg (recC (Rec.of l)).toArray) (recC Rec.zero) (recC (Rec.of l)) (by kernel_rfl) hBw10 rfl (by rw [recC_len]; kernel_rfl) (by simp) (recC_one _) ?_)
    intro w11 hBw11 hCw11
    have hzw11 := hCw11.size
    rw [setFrom_all _ _ (by simp)] at hBw11
    refine ⟨.inl (by kernel_rfl), ?_⟩
    refine anyM_done (by kernel_rfl) ?_
    refine then_code ?_
    refine wpC_seq ?_
    refine wpC_seq ?_
    refine wpC_region ?_
    refine wpF_step (op_v (d := (some 37)) (s := Instr.loadAt 52 (.pointer (some ⟨w9.heap.size, 0, none⟩))) (v := (.agg (recC (Rec.of l)).toArray)) (by kernel_rfl) (rn_lda (vs := recC (Rec.of l)) (by kernel_rfl) (by rw [recC_len]; kernel_rfl) (hBw11.all)) ?_)
    refine wpF_step (op_callAt (d := (some 38)) (by kernel_rfl) (c_CheckRecord (Rec.of l) _) ?_)
    rintro _ w12 ⟨rfl, hEw12⟩
    have hzw12 := hEw12.size
    refine wpF_run 1 [(10, (.int .i64 ((chkR (Rec.of l) : Nat) : Int)))] (by kernel_rfl) ?_
    refine wpF_end (by kernel_rfl) ?_
    refine then_code ?_
    refine wpC_seq ?_
    refine wpC_region ?_
    refine wpF_run 1 [(39, (.int .i64 ((chkR (Rec.of l) : Nat) : Int)))] (by kernel_rfl) ?_
    refine wpF_step (op_eqv (d := (some 40)) (.bool ((((chkR (Rec.of l) : Nat) : Int) != ((0 : Nat) : Int)))) (.bool true) (by kernel_rfl) (congrArg Value.bool (cmpNeT (by omega))) ?_)
    refine wpF_end (by kernel_rfl) ?_
    refine then_code ?_
    refine wpC_true (by kernel_rfl) ?_
    refine wpC_seq ?_
    refine wpC_region ?_
    refine wpF_run 2 [(42, (.int .i64 ((chkR (Rec.of l) : Nat) : Int))), (41, (.agg (recC Rec.zero).toArray))] (by kernel_rfl) ?_
    refine wpF_step (op_store (d := none) 52 w.heap.size 0 52 (.agg (recC Rec.zero).toArray) (recC Rec.zero) (recC Rec.zero) (by kernel_rfl) (((((((((((((((((((((hBw1.ext hEw2)).chg hCw3 (fun hs => by have h : _ = _ := hs; omega))).chg hCw4 (fun hs => by have h : _ = _ := hs; omega))).ext hEw5)).ext hEw6)).chg hCw7 (fun hs => by have h : _ = _ := hs; omega))).ext hEw8)).chg hCw9 (fun hs => by have h : _ = _ := hs; omega))).ext hEw10)).chg hCw11 (fun hs => by have h : _ = _ := hs; omega))).ext hEw12) rfl (by rw [recC_len]; kernel_rfl) (by simp) (recC_one _) ?_)
    intro w13 hBw13 hCw13
    have hzw13 := hCw13.size
    rw [setFrom_all _ _ (by simp)] at hBw13
    refine wpF_run 1 [(3, (.int .i64 ((chkR (Rec.of l) : Nat) : Int)))] (by kernel_rfl) ?_
    refine wpF_end (by kernel_rfl) ?_
    refine then_code ?_
    refine wpC_ret ?_
    refine then_ret ?_
    refine body_ret2 (by kernel_rfl) (show resVal Try.prog 44 _ _ (.cell 2 52) (.agg (recC Rec.zero).toArray) from ⟨⟨w.heap.size, 0, none⟩, (by kernel_rfl), run_loadVar_agg (T := 52) (vs := recC Rec.zero) (by kernel_rfl) (by rw [recC_len]; kernel_rfl) (hBw13).all⟩) (show resVal Try.prog 44 _ _ (.tmp 3) (.int .i64 ((chkR (Rec.of l) : Nat) : Int)) by (show _ = _; kernel_rfl)) ?_
    rw [hp1]; exact ⟨rfl, (Ext.own ((Ext.own ((Ext.own ((Ext.own (((Ext.own (Ext.own (hEw1.trans hEw2) hCw3 (by omega)) hCw4 (by omega)).trans hEw5).trans hEw6) hCw7 (by omega)).trans hEw8) hCw9 (by omega)).trans hEw10) hCw11 (by omega)).trans hEw12) hCw13 (by omega))⟩
  · refine op_new (d := (some 9)) (s := Instr.alloc 52 true (.tuple #[])) (.pointer (some ⟨w8.heap.size, 0, none⟩)) (recC Rec.zero) 52 (by kernel_rfl) (by kernel_rfl) ?_
    intro w14 hBw14 hEw14
    have hzw14 := hEw14.size; have hlw14 := hBw14.lt
    refine ⟨.inr ((Chg.refl (fun k => k = a1) w8).trans hEw14.chg), ?_⟩
    refine anyM_one 3 143 (by kernel_rfl) (by kernel_rfl) (op_callAt (d := (some 33)) (by kernel_rfl) (c_next 32 _ (((((((((hBw4.ext hEw5)).ext hEw6)).chg hCw7 (fun hs => by have h : _ = _ := hs; omega))).ext hEw8)).ext hEw14) (((((((((hQw4.ext hEw5)).ext hEw6)).chg hCw7 (fun k h1 h2 hs => by have h : k = _ := hs; omega))).ext hEw8)).ext hEw14) (by omega) (by omega)) ?_)
    rintro _ w15 ⟨a8, a9, rfl, hPw15, hBw15, hQw15, hCw15⟩
    have hzw15 := hCw15.size
    have hlew15 := hPw15.le; have hlew15q := hQw15.le
    refine ⟨.inr (Chg.then ((Chg.refl (fun k => k = a1) w8).trans hEw14.chg) hCw15 (fun k hk hs => by have h : k = _ := hs; first | exact hs | (exfalso; omega))), ?_⟩
    obtain ⟨b3, o3, rfl⟩ := hPw15.addr (by omega)
    refine anyM_take hT789 4 159 (some 34) (.pointer (some ⟨b3, o3, none⟩)) (QPan.then put_panic_bodyPost) (by kernel_rfl) (by kernel_rfl) (show Chg (fun k => k = a1) w8 w15 from (Chg.then ((Chg.refl (fun k => k = a1) w8).trans hEw14.chg) hCw15 (fun k hk hs => by have h : k = _ := hs; first | exact hs | (exfalso; omega)))) (yld_val (s := Instr.arrayAt 50 (.slice (some ⟨b3, o3, none⟩) 32 (c_l - 1 - 12))) (by kernel_rfl) (fun w' hC => run_arrPtr (m := 32) (E := 5) (by kernel_rfl) (by omega))) ?_
    refine anyM_class (C := Chg (fun k => k = a1) w8) (C' := Chg (fun k => k = a1) w15) (fun w' h => ((Chg.then ((Chg.refl (fun k => k = a1) w8).trans hEw14.chg) hCw15 (fun k hk hs => by have h : k = _ := hs; first | exact hs | (exfalso; omega)))).trans h) ?_
    refine anyM_take hT789 5 191 (some 35) (.agg (digC (Dig.of (((l.drop 1).drop 12).take 32))).toArray) (QPan.then put_panic_bodyPost) (by kernel_rfl) (by kernel_rfl) (show Chg (fun k => k = a1) w15 w15 from (Chg.refl (fun k => k = a1) w15)) (yld_val (s := Instr.loadAt 50 (.pointer (some ⟨b3, o3, none⟩))) (by kernel_rfl) (fun w' hC => rn_lda (vs := digC (Dig.of (((l.drop 1).drop 12).take 32))) (by kernel_rfl) (by rw [digC_len]; kernel_rfl) ((hPw15.chg hC (fun k h1 h2 hs => by have h : _ = _ := hs; omega)).atDig (by have := h_l.len_eq; simp; omega)))) ?_
    refine anyM_take hT789 6 255 (some 36) (.agg (recC (Rec.of l)).toArray) (QPan.then put_panic_bodyPost) (by kernel_rfl) (by kernel_rfl) (show Chg (fun k => k = a1) w15 w15 from (Chg.refl (fun k => k = a1) w15)) (yld_val (s := Instr.build 52 #[(0, (.int .u8 ((byt (l.take 1) 0 : Nat) : Int))), (1, (.agg (nonC (Non.of ((l.drop 1).take 12))).toArray)), (2, (.agg (digC (Dig.of (((l.drop 1).drop 12).take 32))).toArray))]) (by kernel_rfl) (fun w' hC => (run_build_rec (byt (l.take 1) 0) (Non.of ((l.drop 1).take 12)) (Dig.of (((l.drop 1).drop 12).take 32)) (byt_lt _ _) (by kernel_rfl) (by kernel_rfl)).trans (congrArg (fun z : Rec => Result.ok (Value.agg (recC z).toArray) _) (show (⟨byt (l.take 1) 0, (Non.of ((l.drop 1).take 12)), (Dig.of (((l.drop 1).drop 12).take 32)), byt_lt _ _⟩ : Rec) = Rec.of l from Rec.ext' (byt_take1 l) rfl (congrArg Dig.of (by rw [List.drop_drop])))))) ?_
    refine anyM_one 8 511 (by kernel_rfl) (by kernel_rfl) (op_store (d := none) 52 w8.heap.size 0 52 (.agg (recC (Rec.of l)).toArray) (recC Rec.zero) (recC (Rec.of l)) (by kernel_rfl) ((hBw14).chg hCw15 (fun hs => by have h : _ = _ := hs; omega)) rfl (by rw [recC_len]; kernel_rfl) (by simp) (recC_one _) ?_)
    intro w16 hBw16 hCw16
    have hzw16 := hCw16.size
    rw [setFrom_all _ _ (by simp)] at hBw16
    refine ⟨.inl (by kernel_rfl), ?_⟩
    refine anyM_done (by kernel_rfl) ?_
    refine then_code ?_
    refine wpC_seq ?_
    refine wpC_seq ?_
    refine wpC_region ?_
    refine wpF_step (op_v (d := (some 37)) (s := Instr.loadAt 52 (.pointer (some ⟨w8.heap.size, 0, none⟩))) (v := (.agg (recC (Rec.of l)).toArray)) (by kernel_rfl) (rn_lda (vs := recC (Rec.of l)) (by kernel_rfl) (by rw [recC_len]; kernel_rfl) (hBw16.all)) ?_)
    refine wpF_step (op_callAt (d := (some 38)) (by kernel_rfl) (c_CheckRecord (Rec.of l) _) ?_)
    rintro _ w17 ⟨rfl, hEw17⟩
    have hzw17 := hEw17.size
    refine wpF_run 1 [(10, (.int .i64 ((chkR (Rec.of l) : Nat) : Int)))] (by kernel_rfl) ?_
    refine wpF_end (by kernel_rfl) ?_
    refine then_code ?_
    refine wpC_seq ?_
    refine wpC_region ?_
    refine wpF_run 1 [(39, (.int .i64 ((chkR (Rec.of l) : Nat) : Int)))] (by kernel_rfl) ?_
    refine wpF_step (op_eqv (d := (some 40)) (.bool ((((chkR (Rec.of l) : Nat) : Int) != ((0 : Nat) : Int)))) (.bool true) (by kernel_rfl) (congrArg Value.bool (cmpNeT (by omega))) ?_)
    refine wpF_end (by kernel_rfl) ?_
    refine then_code ?_
    refine wpC_true (by kernel_rfl) ?_
    refine wpC_seq ?_
    refine wpC_region ?_
    refine wpF_run 2 [(42, (.int .i64 ((chkR (Rec.of l) : Nat) : Int))), (41, (.agg (recC Rec.zero).toArray))] (by kernel_rfl) ?_
    refine wpF_step (op_store (d := none) 52 w.heap.size 0 52 (.agg (recC Rec.zero).toArray) (recC Rec.zero) (recC Rec.zero) (by kernel_rfl) (((((((((((((((((((((hBw1.ext hEw2)).chg hCw3 (fun hs => by have h : _ = _ := hs; omega))).chg hCw4 (fun hs => by have h : _ = _ := hs; omega))).ext hEw5)).ext hEw6)).chg hCw7 (fun hs => by have h : _ = _ := hs; omega))).ext hEw8)).ext hEw14)).chg hCw15 (fun hs => by have h : _ = _ := hs; omega))).chg hCw16 (fun hs => by have h : _ = _ := hs; omega))).ext hEw17) rfl (by rw [recC_len]; kernel_rfl) (by simp) (recC_one _) ?_)
    intro w18 hBw18 hCw18
    have hzw18 := hCw18.size
    rw [setFrom_all _ _ (by simp)] at hBw18
    refine wpF_run 1 [(3, (.int .i64 ((chkR (Rec.of l) : Nat) : Int)))] (by kernel_rfl) ?_
    refine wpF_end (by kernel_rfl) ?_
    refine then_code ?_
    refine wpC_ret ?_
    refine then_ret ?_
    refine body_ret2 (by kernel_rfl) (show resVal Try.prog 44 _ _ (.cell 2 52) (.agg (recC Rec.zero).toArray) from ⟨⟨w.heap.size, 0, none⟩, (by kernel_rfl), run_loadVar_agg (T := 52) (vs := recC Rec.zero) (by kernel_rfl) (by rw [recC_len]; kernel_rfl) (hBw18).all⟩) (show resVal Try.prog 44 _ _ (.tmp 3) (.int .i64 ((chkR (Rec.of l) : Nat) : Int)) by (show _ = _; kernel_rfl)) ?_
    rw [hp1]; exact ⟨rfl, (Ext.own ((Ext.own (Ext.own (((Ext.own (((Ext.own (Ext.own (hEw1.trans hEw2) hCw3 (by omega)) hCw4 (by omega)).trans hEw5).trans hEw6) hCw7 (by omega)).trans hEw8).trans hEw14) hCw15 (by omega)) hCw16 (by omega)).trans hEw17) hCw18 (by omega))⟩

end Go.Proofs.Ytigeaknjhnichaa
