/- CsL1b: what each function does, by its own code. No condition beyond those of each statement. -/
import Derived.Test.YtigeaknjhnichaaCsL1
namespace Go.Proofs.Ytigeaknjhnichaa
open Go Go.RowKit Go.Cs
set_option maxRecDepth 100000
set_option linter.all false
set_option linter.unusedVariables false

theorem c_WordsJoin0 {lo_a hi_a : Nat} {a_a : Option Addr} {n_a c_a : Nat} {a : List UInt8} {lo_b hi_b : Nat} {a_b : Option Addr} {n_b c_b : Nat} {b : List UInt8} {lo_c hi_c : Nat} {a_c : Option Addr} {n_c c_c : Nat} {c : List UInt8}  (w : World) (h_a : Bs lo_a hi_a w a_a n_a c_a a) (h_b : Bs lo_b hi_b w a_b n_b c_b b) (h_c : Bs lo_c hi_c w a_c n_c c_c c) (hp0 : 40 < n_a) :
    Calls Try.prog 7 #[(.slice a_a n_a c_a), (.slice a_b n_b c_b), (.slice a_c n_c c_c)] w (Ret fun r w' => r = (.bool true) ∧ Ext w w') := by
  refine calls_of (n := 109) (σ := [(0, (.slice a_a n_a c_a)), (1, (.slice a_b n_b c_b)), (2, (.slice a_c n_c c_c))]) Try.func7 rfl (by kernel_rfl) ?_
  replace h_a := h_a.now; have hle_a := h_a.le
  replace h_b := h_b.now; have hle_b := h_b.le
  replace h_c := h_c.now; have hle_c := h_c.le
  have hla := h_a.len_eq; have hlb := h_b.len_eq; have hlc := h_c.len_eq
  refine wpC_seq ?_
  refine wpC_region ?_
  refine wpF_run 1 [(6, (.bool false))] (by kernel_rfl) ?_
  refine wpF_end (by kernel_rfl) ?_
  refine then_code ?_
  refine wpC_seq ?_
  refine wpC_seq ?_
  refine wpC_region ?_
  refine wpF_run 2 [(15, (.int .i64 ((n_a : Nat) : Int))), (14, (.slice a_a n_a c_a))] (by kernel_rfl) ?_
  refine wpF_step (op_eqv (d := (some 16)) (.bool (decide (((n_a : Nat) : Int) > ((40 : Nat) : Int)))) (.bool true) (by kernel_rfl) (congrArg Value.bool (cmpDT (by omega))) ?_)
  refine wpF_run 10 [(26, (.bool true)), (25, undef), (24, undef), (23, undef), (22, (.bool true)), (21, (.bool true)), (20, undef), (19, undef), (18, undef), (17, (.bool true))] (by kernel_rfl) ?_
  refine wpF_end (by kernel_rfl) ?_
  refine then_code ?_
  refine wpC_true (by kernel_rfl) ?_
  refine wpC_seq ?_
  refine wpC_region ?_
  refine wpF_step (op_callAt (d := (some 27)) (by kernel_rfl) (c_lives1 _) ?_)
  rintro _ w1 ⟨rfl, hEw1⟩
  have hzw1 := hEw1.size
  refine wpF_run 1 [(6, (.bool true))] (by kernel_rfl) ?_
  refine wpF_end (by kernel_rfl) ?_
  refine then_code ?_
  refine wpC_ret ?_
  refine then_ret ?_
  refine body_ret1 (by kernel_rfl) (show resVal Try.prog 109 _ _ (.tmp 6) (.bool true) by (show _ = _; kernel_rfl)) ?_
  exact ⟨rfl, hEw1⟩

theorem c_WordsJoin1 {lo_a hi_a : Nat} {a_a : Option Addr} {n_a c_a : Nat} {a : List UInt8} {lo_b hi_b : Nat} {a_b : Option Addr} {n_b c_b : Nat} {b : List UInt8} {lo_c hi_c : Nat} {a_c : Option Addr} {n_c c_c : Nat} {c : List UInt8}  (w : World) (h_a : Bs lo_a hi_a w a_a n_a c_a a) (h_b : Bs lo_b hi_b w a_b n_b c_b b) (h_c : Bs lo_c hi_c w a_c n_c c_c c) (hp0 : n_a ≤ 40) (hp1 : 40 < n_b) :
    Calls Try.prog 7 #[(.slice a_a n_a c_a), (.slice a_b n_b c_b), (.slice a_c n_c c_c)] w (Ret fun r w' => r = (.bool true) ∧ Ext w w') := by
  refine calls_of (n := 109) (σ := [(0, (.slice a_a n_a c_a)), (1, (.slice a_b n_b c_b)), (2, (.slice a_c n_c c_c))]) Try.func7 rfl (by kernel_rfl) ?_
  replace h_a := h_a.now; have hle_a := h_a.le
  replace h_b := h_b.now; have hle_b := h_b.le
  replace h_c := h_c.now; have hle_c := h_c.le
  have hla := h_a.len_eq; have hlb := h_b.len_eq; have hlc := h_c.len_eq
  refine wpC_seq ?_
  refine wpC_region ?_
  refine wpF_run 1 [(6, (.bool false))] (by kernel_rfl) ?_
  refine wpF_end (by kernel_rfl) ?_
  refine then_code ?_
  refine wpC_seq ?_
  refine wpC_seq ?_
  refine wpC_region ?_
  refine wpF_run 2 [(15, (.int .i64 ((n_a : Nat) : Int))), (14, (.slice a_a n_a c_a))] (by kernel_rfl) ?_
  refine wpF_step (op_eqv (d := (some 16)) (.bool (decide (((n_a : Nat) : Int) > ((40 : Nat) : Int)))) (.bool false) (by kernel_rfl) (congrArg Value.bool (cmpDF (by omega))) ?_)
  refine wpF_run 3 [(19, (.int .i64 ((n_b : Nat) : Int))), (18, (.slice a_b n_b c_b)), (17, (.bool false))] (by kernel_rfl) ?_
  refine wpF_step (op_eqv (d := (some 20)) (.bool (decide (((n_b : Nat) : Int) > ((40 : Nat) : Int)))) (.bool true) (by kernel_rfl) (congrArg Value.bool (cmpDT (by omega))) ?_)
  refine wpF_run 6 [(26, (.bool true)), (25, undef), (24, undef), (23, undef), (22, (.bool true)), (21, (.bool true))] (by kernel_rfl) ?_
  refine wpF_end (by kernel_rfl) ?_
  refine then_code ?_
  refine wpC_true (by kernel_rfl) ?_
  refine wpC_seq ?_
  refine wpC_region ?_
  refine wpF_step (op_callAt (d := (some 27)) (by kernel_rfl) (c_lives1 _) ?_)
  rintro _ w1 ⟨rfl, hEw1⟩
  have hzw1 := hEw1.size
  refine wpF_run 1 [(6, (.bool true))] (by kernel_rfl) ?_
  refine wpF_end (by kernel_rfl) ?_
  refine then_code ?_
  refine wpC_ret ?_
  refine then_ret ?_
  refine body_ret1 (by kernel_rfl) (show resVal Try.prog 109 _ _ (.tmp 6) (.bool true) by (show _ = _; kernel_rfl)) ?_
  exact ⟨rfl, hEw1⟩

theorem c_WordsJoin2 {lo_a hi_a : Nat} {a_a : Option Addr} {n_a c_a : Nat} {a : List UInt8} {lo_b hi_b : Nat} {a_b : Option Addr} {n_b c_b : Nat} {b : List UInt8} {lo_c hi_c : Nat} {a_c : Option Addr} {n_c c_c : Nat} {c : List UInt8}  (w : World) (h_a : Bs lo_a hi_a w a_a n_a c_a a) (h_b : Bs lo_b hi_b w a_b n_b c_b b) (h_c : Bs lo_c hi_c w a_c n_c c_c c) (hp0 : n_a ≤ 40) (hp1 : n_b ≤ 40) (hp2 : 40 < n_c) :
    Calls Try.prog 7 #[(.slice a_a n_a c_a), (.slice a_b n_b c_b), (.slice a_c n_c c_c)] w (Ret fun r w' => r = (.bool true) ∧ Ext w w') := by
  refine calls_of (n := 109) (σ := [(0, (.slice a_a n_a c_a)), (1, (.slice a_b n_b c_b)), (2, (.slice a_c n_c c_c))]) Try.func7 rfl (by kernel_rfl) ?_
  replace h_a := h_a.now; have hle_a := h_a.le
  replace h_b := h_b.now; have hle_b := h_b.le
  replace h_c := h_c.now; have hle_c := h_c.le
  have hla := h_a.len_eq; have hlb := h_b.len_eq; have hlc := h_c.len_eq
  refine wpC_seq ?_
  refine wpC_region ?_
  refine wpF_run 1 [(6, (.bool false))] (by kernel_rfl) ?_
  refine wpF_end (by kernel_rfl) ?_
  refine then_code ?_
  refine wpC_seq ?_
  refine wpC_seq ?_
  refine wpC_region ?_
  refine wpF_run 2 [(15, (.int .i64 ((n_a : Nat) : Int))), (14, (.slice a_a n_a c_a))] (by kernel_rfl) ?_
  refine wpF_step (op_eqv (d := (some 16)) (.bool (decide (((n_a : Nat) : Int) > ((40 : Nat) : Int)))) (.bool false) (by kernel_rfl) (congrArg Value.bool (cmpDF (by omega))) ?_)
  refine wpF_run 3 [(19, (.int .i64 ((n_b : Nat) : Int))), (18, (.slice a_b n_b c_b)), (17, (.bool false))] (by kernel_rfl) ?_
  refine wpF_step (op_eqv (d := (some 20)) (.bool (decide (((n_b : Nat) : Int) > ((40 : Nat) : Int)))) (.bool false) (by kernel_rfl) (congrArg Value.bool (cmpDF (by omega))) ?_)
  refine wpF_run 4 [(24, (.int .i64 ((n_c : Nat) : Int))), (23, (.slice a_c n_c c_c)), (22, (.bool false)), (21, (.bool false))] (by kernel_rfl) ?_
  refine wpF_step (op_eqv (d := (some 25)) (.bool (decide (((n_c : Nat) : Int) > ((40 : Nat) : Int)))) (.bool true) (by kernel_rfl) (congrArg Value.bool (cmpDT (by omega))) ?_)
  refine wpF_run 1 [(26, (.bool true))] (by kernel_rfl) ?_
  refine wpF_end (by kernel_rfl) ?_
  refine then_code ?_
  refine wpC_true (by kernel_rfl) ?_
  refine wpC_seq ?_
  refine wpC_region ?_
  refine wpF_step (op_callAt (d := (some 27)) (by kernel_rfl) (c_lives1 _) ?_)
  rintro _ w1 ⟨rfl, hEw1⟩
  have hzw1 := hEw1.size
  refine wpF_run 1 [(6, (.bool true))] (by kernel_rfl) ?_
  refine wpF_end (by kernel_rfl) ?_
  refine then_code ?_
  refine wpC_ret ?_
  refine then_ret ?_
  refine body_ret1 (by kernel_rfl) (show resVal Try.prog 109 _ _ (.tmp 6) (.bool true) by (show _ = _; kernel_rfl)) ?_
  exact ⟨rfl, hEw1⟩

set_option maxHeartbeats 2000000 in
theorem c_WordsJoin3 {lo_a hi_a : Nat} {a_a : Option Addr} {n_a c_a : Nat} {a : List UInt8} {lo_b hi_b : Nat} {a_b : Option Addr} {n_b c_b : Nat} {b : List UInt8} {lo_c hi_c : Nat} {a_c : Option Addr} {n_c c_c : Nat} {c : List UInt8}  (w : World) (h_a : Bs lo_a hi_a w a_a n_a c_a a) (h_b : Bs lo_b hi_b w a_b n_b c_b b) (h_c : Bs lo_c hi_c w a_c n_c c_c c) (hp0 : n_a ≤ 40) (hp1 : n_b ≤ 40) (hp2 : n_c ≤ 40) :
    Calls Try.prog 7 #[(.slice a_a n_a c_a), (.slice a_b n_b c_b), (.slice a_c n_c c_c)] w (Ret fun r w' => r = (.bool true) ∧ Ext w w') := by
  refine calls_of (n := 109) (σ := [(0, (.slice a_a n_a c_a)), (1, (.slice a_b n_b c_b)), (2, (.slice a_c n_c c_c))]) Try.func7 rfl (by kernel_rfl) ?_
  replace h_a := h_a.now; have hle_a := h_a.le
  replace h_b := h_b.now; have hle_b := h_b.le
  replace h_c := h_c.now; have hle_c := h_c.le
  have hla := h_a.len_eq; have hlb := h_b.len_eq; have hlc := h_c.len_eq
  refine wpC_seq ?_
  refine wpC_region ?_
  refine wpF_run 1 [(6, (.bool false))] (by kernel_rfl) ?_
  refine wpF_end (by kernel_rfl) ?_
  refine then_code ?_
  refine wpC_seq ?_
  refine wpC_seq ?_
  refine wpC_region ?_
  refine wpF_run 2 [(15, (.int .i64 ((n_a : Nat) : Int))), (14, (.slice a_a n_a c_a))] (by kernel_rfl) ?_
  refine wpF_step (op_eqv (d := (some 16)) (.bool (decide (((n_a : Nat) : Int) > ((40 : Nat) : Int)))) (.bool false) (by kernel_rfl) (congrArg Value.bool (cmpDF (by omega))) ?_)
  refine wpF_run 3 [(19, (.int .i64 ((n_b : Nat) : Int))), (18, (.slice a_b n_b c_b)), (17, (.bool false))] (by kernel_rfl) ?_
  refine wpF_step (op_eqv (d := (some 20)) (.bool (decide (((n_b : Nat) : Int) > ((40 : Nat) : Int)))) (.bool false) (by kernel_rfl) (congrArg Value.bool (cmpDF (by omega))) ?_)
  refine wpF_run 4 [(24, (.int .i64 ((n_c : Nat) : Int))), (23, (.slice a_c n_c c_c)), (22, (.bool false)), (21, (.bool false))] (by kernel_rfl) ?_
  refine wpF_step (op_eqv (d := (some 25)) (.bool (decide (((n_c : Nat) : Int) > ((40 : Nat) : Int)))) (.bool false) (by kernel_rfl) (congrArg Value.bool (cmpDF (by omega))) ?_)
  refine wpF_run 1 [(26, (.bool false))] (by kernel_rfl) ?_
  refine wpF_end (by kernel_rfl) ?_
  refine then_code ?_
  refine wpC_false (by kernel_rfl) ?_
  refine wpC_skip ?_
  refine then_code ?_
  refine wpC_seq ?_
  refine wpC_region ?_
  refine wpF_run 3 [(30, (.slice a_c n_c c_c)), (29, (.slice a_b n_b c_b)), (28, (.slice a_a n_a c_a))] (by kernel_rfl) ?_
  refine wpF_step (op_new (d := (some 31)) (s := Instr.buildSlice 84 3 #[(0, (.slice a_a n_a c_a)), (1, (.slice a_b n_b c_b)), (2, (.slice a_c n_c c_c))]) (.slice (some ⟨w.heap.size, 0, none⟩) 3 3) [(.slice a_a n_a c_a), (.slice a_b n_b c_b), (.slice a_c n_c c_c)] 23 (by kernel_rfl) (by kernel_rfl) ?_)
  intro w1 hBw1 hEw1
  have hzw1 := hEw1.size; have hlw1 := hBw1.lt
  have hSw1 : Ps 0 w1.heap.size w1 (some ⟨w.heap.size, 0, none⟩) 3 3 [(.slice a_a n_a c_a), (.slice a_b n_b c_b), (.slice a_c n_c c_c)] [a, b, c] := Ps.of_new hBw1 rfl (by decide) (Parts.cons (Part.at (h_a.ext hEw1)) (Parts.cons (Part.at (h_b.ext hEw1)) (Parts.cons (Part.at (h_c.ext hEw1)) Parts.nil)))
  refine wpF_step (op_callAt (d := (some 32)) (by kernel_rfl) (c_Join _ hSw1 (by simp [sumLen] <;> omega)) ?_)
  rintro _ w2 ⟨a1, rfl, hFz1_0, hFz1_1, hFz1_2, hFz1_3, hEw2⟩
  have hzw2 := hEw2.size
  have hla1 := hFz1_1.lt; have hna1 := hFz1_3
  have hSa1 : Bs a1 (a1 + 1) w2 (some ⟨a1, 0, none⟩) (sumLen ([a, b, c])) (sumLen ([a, b, c])) (([a, b, c]).flatten) := Bs.of_blk hFz1_1 rfl hFz1_2 (Nat.le_refl _) (le_maxLen hna1) (Nat.le_refl _) (Nat.lt_succ_self _)
  refine wpF_run 1 [(7, (.slice (some ⟨a1, 0, none⟩) (sumLen ([a, b, c])) (sumLen ([a, b, c]))))] (by kernel_rfl) ?_
  refine wpF_end (by kernel_rfl) ?_
  refine then_code ?_
  refine wpC_seq ?_
  refine wpC_seq ?_
  refine wpC_region ?_
  refine wpF_run 1 [(33, (.slice (some ⟨a1, 0, none⟩) (sumLen ([a, b, c])) (sumLen ([a, b, c]))))] (by kernel_rfl) ?_
  refine wpF_step (op_new (d := (some 34)) (s := Instr.buildSlice 23 0 #[]) (.slice (some ⟨w2.heap.size, 0, none⟩) 0 0) [] 5 (by kernel_rfl) (by kernel_rfl) ?_)
  intro w3 hBw3 hEw3
  have hzw3 := hEw3.size; have hlw3 := hBw3.lt
  have hSw3 : Bs w2.heap.size (w2.heap.size + 1) w3 (some ⟨w2.heap.size, 0, none⟩) 0 0 [] := Bs.of_blk hBw3 (by kernel_rfl) rfl (Nat.le_refl _) (by decide) (Nat.le_refl _) (Nat.lt_succ_self _)
  refine wpF_run 1 [(35, (.slice a_a n_a c_a))] (by kernel_rfl) ?_
  have hO1 : Own u8v w2.heap.size (w2.heap.size + 1) w3 (some ⟨w2.heap.size, 0, none⟩) 0 0 5 ([]) := Own.of_blk hBw3 (by simp) (by rfl) hSw3.len_eq (Nat.le_refl _) (by simp only [maxLen]; omega) (Nat.le_refl _) (Nat.lt_succ_self _)
  refine wpF_step (op_append (d := (some 36)) 23 23 5 1 (.int .u8 0) (some ⟨w2.heap.size, 0, none⟩) 0 0 a_a n_a c_a (by kernel_rfl) (by kernel_rfl) (by kernel_rfl) (by kernel_rfl) (fun _ => rfl) hO1 (((((h_a.ext hEw1)).ext hEw2)).ext hEw3).es (by simp only [maxLen]; omega) (by omega) (by omega) ?_)
  intro a2 c1 w4 hOw4 hCw4
  have hzw4 := hCw4.size
  have hSw4 := hOw4.bs
  refine wpF_run 1 [(37, (.slice a_b n_b c_b))] (by kernel_rfl) ?_
  refine wpF_step (op_append (d := (some 38)) 23 23 5 1 (.int .u8 0) a2 (0 + n_a) c1 a_b n_b c_b (by kernel_rfl) (by kernel_rfl) (by kernel_rfl) (by kernel_rfl) (fun _ => rfl) hOw4 (((((((h_b.ext hEw1)).ext hEw2)).ext hEw3)).chg hCw4 (fun k h1 h2 hs => by have hn := hO1.ne hs; omega)).es (by simp only [maxLen]; omega) (by omega) (by omega) ?_)
  intro a3 c2 w5 hOw5 hCw5
  have hzw5 := hCw5.size
  have hSw5 := hOw5.bs
  refine wpF_run 1 [(39, (.slice a_c n_c c_c))] (by kernel_rfl) ?_
  refine wpF_step (op_append (d := (some 40)) 23 23 5 1 (.int .u8 0) a3 (0 + n_a + n_b) c2 a_c n_c c_c (by kernel_rfl) (by kernel_rfl) (by kernel_rfl) (by kernel_rfl) (fun _ => rfl) hOw5 (((((((((h_c.ext hEw1)).ext hEw2)).ext hEw3)).chg hCw4 (fun k h1 h2 hs => by have hn := hO1.ne hs; omega))).chg hCw5 (fun k h1 h2 hs => by have hn := hOw4.ne hs; omega)).es (by simp only [maxLen]; omega) (by omega) (by omega) ?_)
  intro a4 c3 w6 hOw6 hCw6
  have hzw6 := hCw6.size
  have hSw6 := hOw6.bs
  refine wpF_step (op_callAt (d := (some 41)) (by kernel_rfl) (c_same1 0 0 _ (((((((hSa1.ext hEw3)).chg hCw4 (fun k h1 h2 hs => by have hn := hO1.ne hs; omega))).chg hCw5 (fun k h1 h2 hs => by have hn := hOw4.ne hs; omega))).chg hCw6 (fun k h1 h2 hs => by have hn := hOw5.ne hs; omega)) hSw6 (rfl) (by simp) (rfl)) ?_)
  rintro _ _ ⟨rfl, rfl⟩
  refine wpF_run 1 [(42, (.bool false))] (by kernel_rfl) ?_
  refine wpF_end (by kernel_rfl) ?_
  refine then_code ?_
  refine wpC_false (by kernel_rfl) ?_
  refine wpC_skip ?_
  refine then_code ?_
  refine wpC_seq ?_
  refine wpC_region ?_
  refine wpF_run 1 [(43, (.slice a_a n_a c_a))] (by kernel_rfl) ?_
  refine wpF_step (op_new (d := (some 44)) (s := Instr.buildSlice 84 1 #[(0, (.slice a_a n_a c_a))]) (.slice (some ⟨w6.heap.size, 0, none⟩) 1 1) [(.slice a_a n_a c_a)] 23 (by kernel_rfl) (by kernel_rfl) ?_)
  intro w7 hBw7 hEw7
  have hzw7 := hEw7.size; have hlw7 := hBw7.lt
  have hSw7 : Ps 0 w7.heap.size w7 (some ⟨w6.heap.size, 0, none⟩) 1 1 [(.slice a_a n_a c_a)] [a] := Ps.of_new hBw7 rfl (by decide) (Parts.cons (Part.at (((((((((((((h_a.ext hEw1)).ext hEw2)).ext hEw3)).chg hCw4 (fun k h1 h2 hs => by have hn := hO1.ne hs; omega))).chg hCw5 (fun k h1 h2 hs => by have hn := hOw4.ne hs; omega))).chg hCw6 (fun k h1 h2 hs => by have hn := hOw5.ne hs; omega))).ext hEw7)) Parts.nil)
  refine wpF_step (op_callAt (d := (some 45)) (by kernel_rfl) (c_Join _ hSw7 (by simp [sumLen] <;> omega)) ?_)
  rintro _ w8 ⟨a5, rfl, hFz3_0, hFz3_1, hFz3_2, hFz3_3, hEw8⟩
  have hzw8 := hEw8.size
  have hla5 := hFz3_1.lt; have hna5 := hFz3_3
  have hSa5 : Bs a5 (a5 + 1) w8 (some ⟨a5, 0, none⟩) (sumLen ([a])) (sumLen ([a])) (([a]).flatten) := Bs.of_blk hFz3_1 rfl hFz3_2 (Nat.le_refl _) (le_maxLen hna5) (Nat.le_refl _) (Nat.lt_succ_self _)
  refine wpF_step (op_v (d := (some 46)) (s := convert 23 9 (.slice (some ⟨a5, 0, none⟩) (sumLen ([a])) (sumLen ([a])))) (v := (.string ⟨(([a]).flatten).toArray⟩)) (by kernel_rfl) (run_string (E := 5) (by kernel_rfl) (by kernel_rfl) (by kernel_rfl) hSa5) ?_)
  refine wpF_run 1 [(8, (.string ⟨(([a]).flatten).toArray⟩))] (by kernel_rfl) ?_
  refine wpF_end (by kernel_rfl) ?_
  refine then_code ?_
  refine wpC_seq ?_
  refine wpC_seq ?_
  refine wpC_region ?_
  refine wpF_run 2 [(48, (.int .i64 ((sumLen ([a, b, c]) : Nat) : Int))), (47, (.slice (some ⟨a1, 0, none⟩) (sumLen ([a, b, c])) (sumLen ([a, b, c]))))] (by kernel_rfl) ?_
  refine wpF_step (op_split (d := (some 49)) (decide (((sumLen ([a, b, c]) : Nat) : Int) > ((0 : Nat) : Int))) (by kernel_rfl) (fun hc49 => ?_) (fun hc49 => ?_))
  · replace hc49 : sumLen ([a, b, c]) > 0 := by have := of_d_t hc49; omega
    refine wpF_end (by kernel_rfl) ?_
    refine then_code ?_
    refine wpC_true (by kernel_rfl) ?_
    refine wpC_region ?_
    refine wpF_run 1 [(50, (.slice (some ⟨a1, 0, none⟩) (sumLen ([a, b, c])) (sumLen ([a, b, c]))))] (by kernel_rfl) ?_
    refine wpF_step (op_v (d := (some 51)) (s := Instr.indexAt 23 (.slice (some ⟨a1, 0, none⟩) (sumLen ([a, b, c])) (sumLen ([a, b, c]))) (.int .i64 ((0 : Nat) : Int))) (v := (.pointer (some ⟨a1, 0 + 0 * 1, none⟩))) (by kernel_rfl) (rn_ixs (E := 5) (sz := 1) (by kernel_rfl) (by kernel_rfl) (by omega)) ?_)
    refine wpF_step (op_v (d := (some 52)) (s := Instr.loadAt 5 (.pointer (some ⟨a1, 0 + 0 * 1, none⟩))) (v := (.int .u8 ((byt (([a, b, c]).flatten) 0 : Nat) : Int))) (by kernel_rfl) (rn_ld (by kernel_rfl) ((((((((((((hSa1.ext hEw3)).chg hCw4 (fun k h1 h2 hs => by have hn := hO1.ne hs; omega))).chg hCw5 (fun k h1 h2 hs => by have hn := hOw4.ne hs; omega))).chg hCw6 (fun k h1 h2 hs => by have hn := hOw5.ne hs; omega))).ext hEw7)).ext hEw8).cell1 (by omega))) ?_)
    refine wpF_step (op_eqv (d := (some 53)) (.int .u8 (IntKind.u8.wrap (((byt (([a, b, c]).flatten) 0 : Nat) : Int) + ((1 : Nat) : Int)))) (.int .u8 (((byt (([a, b, c]).flatten) 0 + 1) % 2 ^ 8 : Nat) : Int)) (by kernel_rfl) (congrArg (Value.int .u8) (wrapU rfl (by simp))) ?_)
    refine wpF_step (op_v (d := (some 54)) (s := Instr.indexAt 23 (.slice (some ⟨a1, 0, none⟩) (sumLen ([a, b, c])) (sumLen ([a, b, c]))) (.int .i64 ((0 : Nat) : Int))) (v := (.pointer (some ⟨a1, 0 + 0 * 1, none⟩))) (by kernel_rfl) (rn_ixs (E := 5) (sz := 1) (by kernel_rfl) (by kernel_rfl) (by omega)) ?_)
    refine wpF_step (op_store (d := none) 5 a1 (0 + 0 * 1) 5 (.int .u8 (((byt (([a, b, c]).flatten) 0 + 1) % 2 ^ 8 : Nat) : Int)) (u8s (([a, b, c]).flatten)) ([(.int .u8 (((byt (([a, b, c]).flatten) 0 + 1) % 2 ^ 8 : Nat) : Int))]) (by kernel_rfl) (((((((((((hFz1_1.ext hEw3)).chg hCw4 (fun hs => by have hn := hO1.ne hs; omega))).chg hCw5 (fun hs => by have hn := hOw4.ne hs; omega))).chg hCw6 (fun hs => by have hn := hOw5.ne hs; omega))).ext hEw7)).ext hEw8) rfl (by kernel_rfl) (by have hq := hSa1.len_eq; simp only [u8s_length, List.length_cons, List.length_nil]; omega) (by simp [Value.oneCell']) ?_)
    intro w9 hBw9 hCw9
    have hzw9 := hCw9.size
    refine wpF_end (by kernel_rfl) ?_
    refine then_code ?_
    refine wpC_seq ?_
    refine wpC_seq ?_
    refine wpC_region ?_
    refine wpF_run 1 [(55, (.slice a_a n_a c_a))] (by kernel_rfl) ?_
    refine wpF_step (op_v (d := (some 56)) (s := convert 23 9 (.slice a_a n_a c_a)) (v := (.string ⟨(a).toArray⟩)) (by kernel_rfl) (run_string (E := 5) (by kernel_rfl) (by kernel_rfl) (by kernel_rfl) (((((((((((((((((h_a.ext hEw1)).ext hEw2)).ext hEw3)).chg hCw4 (fun k h1 h2 hs => by have hn := hO1.ne hs; omega))).chg hCw5 (fun k h1 h2 hs => by have hn := hOw4.ne hs; omega))).chg hCw6 (fun k h1 h2 hs => by have hn := hOw5.ne hs; omega))).ext hEw7)).ext hEw8)).chg hCw9 (fun k h1 h2 hs => by have h : k = _ := hs; omega))) ?_)
    refine wpF_run 1 [(57, (.string ⟨(([a]).flatten).toArray⟩))] (by kernel_rfl) ?_
    refine wpF_step (op_eqv (d := (some 58)) (.bool (!((⟨(a).toArray⟩ : ByteArray).toList == (⟨(([a]).flatten).toArray⟩ : ByteArray).toList))) (.bool false) (by kernel_rfl) (congrArg Value.bool (strNF (by simp))) ?_)
    refine wpF_end (by kernel_rfl) ?_
    refine then_code ?_
    refine wpC_false (by kernel_rfl) ?_
    refine wpC_skip ?_
    refine then_code ?_
    refine wpC_seq ?_
    refine wpC_region ?_
    refine wpF_run 4 [(62, (.int .i64 ((n_b : Nat) : Int))), (61, (.slice a_b n_b c_b)), (60, (.int .i64 ((n_a : Nat) : Int))), (59, (.slice a_a n_a c_a))] (by kernel_rfl) ?_
    refine wpF_step (op_eqv (d := (some 63)) (.int .i64 (if ((n_b : Nat) : Int) < ((n_a : Nat) : Int) then ((n_b : Nat) : Int) else ((n_a : Nat) : Int))) (.int .i64 ((min n_a n_b : Nat) : Int)) (by kernel_rfl) (congrArg _ (minN _ _)) ?_)
    refine wpF_run 1 [(9, (.int .i64 ((min n_a n_b : Nat) : Int)))] (by kernel_rfl) ?_
    refine wpF_end (by kernel_rfl) ?_
    refine then_code ?_
    refine wpC_seq ?_
    refine wpC_drawM (Ext w9.drew) 18 [(66, 1, 0), (67, 512, 0), (68, 110680464442257309696, 3), (69, 4, 0), (70, 442721857769029238784, 12), (71, 590295810358705651712, 16), (72, 2, 0), (73, 512, 0), (74, 7083549724304467820544, 192), (75, 4, 0), (76, 28334198897217871282176, 768), (77, 37778931862957161709568, 1056), (78, 76738455346631734722560, 2080), (65, 151115727451828646838272, 4096), (79, 18446744073709551616, 8192), (80, 18446744073709551616, 8192), (11, 302231454903657293676544, 32767), (12, 604462909807314587353088, 131071)] (by kernel_rfl) ⟨by kernel_rfl, by kernel_rfl, by kernel_rfl⟩ (fun hT239 => ?_)
    have hEw10 : Ext w9 w9.drew := Ext.drew w9
    generalize w9.drew = w10 at hEw10 ⊢
    have hzw10 := hEw10.size
    refine anyM_run hT239 0 1 [(65, (.slice a_a n_a c_a))] (QPan.then put_panic_bodyPost) (by kernel_rfl) (by kernel_rfl) (show Ext w10 w10 from (Ext.refl _)) (fun _ => by kernel_rfl) ?_
    refine anyM_run hT239 1 3 [(66, (.int .i64 ((min n_a n_b : Nat) : Int)))] (QPan.then put_panic_bodyPost) (by kernel_rfl) (by kernel_rfl) (show Ext w10 w10 from (Ext.refl _)) (fun _ => by kernel_rfl) ?_
    obtain ⟨a6, hR1, hS1⟩ := (((((((((((((((((((h_a.ext hEw1)).ext hEw2)).ext hEw3)).chg hCw4 (fun k h1 h2 hs => by have hn := hO1.ne hs; omega))).chg hCw5 (fun k h1 h2 hs => by have hn := hOw4.ne hs; omega))).chg hCw6 (fun k h1 h2 hs => by have hn := hOw5.ne hs; omega))).ext hEw7)).ext hEw8)).chg hCw9 (fun k h1 h2 hs => by have h : k = _ := hs; omega))).ext hEw10).slice (P := Try.prog) (T := 23) (E := 5) (xl := none) (xh := (some (.int .i64 ((min n_a n_b : Nat) : Int)))) (mx := none) (x := 0) (r := min n_a n_b) (m := c_a) (by kernel_rfl) (by kernel_rfl) (.inl ⟨rfl, rfl⟩) (.inr ⟨_, rfl⟩) (.inl ⟨rfl, rfl⟩) (by simp) (by omega) (by omega) (by omega) (by omega)
    refine anyM_take hT239 2 7 (some 67) (.slice a6 (min n_a n_b - 0) (c_a - 0)) (QPan.then put_panic_bodyPost) (by kernel_rfl) (by kernel_rfl) (show Ext w10 w10 from (Ext.refl _)) (yld_val (s := Instr.sliceAt 23 (.slice a_a n_a c_a) none (some (.int .i64 ((min n_a n_b : Nat) : Int))) none) (by kernel_rfl) (fun w' hC => hR1 _)) ?_
    refine anyM_run hT239 3 15 [(68, (.slice a_c n_c c_c))] (QPan.then put_panic_bodyPost) (by kernel_rfl) (by kernel_rfl) (show Ext w10 w10 from (Ext.refl _)) (fun _ => by kernel_rfl) ?_
    refine anyM_run hT239 6 79 [(71, (.slice a_b n_b c_b))] (QPan.then put_panic_bodyPost) (by kernel_rfl) (by kernel_rfl) (show Ext w10 w10 from (Ext.refl _)) (fun _ => by kernel_rfl) ?_
    refine anyM_run hT239 7 207 [(72, (.int .i64 ((min n_a n_b : Nat) : Int)))] (QPan.then put_panic_bodyPost) (by kernel_rfl) (by kernel_rfl) (show Ext w10 w10 from (Ext.refl _)) (fun _ => by kernel_rfl) ?_
    obtain ⟨a7, hR2, hS2⟩ := (((((((((((((((((((h_b.ext hEw1)).ext hEw2)).ext hEw3)).chg hCw4 (fun k h1 h2 hs => by have hn := hO1.ne hs; omega))).chg hCw5 (fun k h1 h2 hs => by have hn := hOw4.ne hs; omega))).chg hCw6 (fun k h1 h2 hs => by have hn := hOw5.ne hs; omega))).ext hEw7)).ext hEw8)).chg hCw9 (fun k h1 h2 hs => by have h : k = _ := hs; omega))).ext hEw10).slice (P := Try.prog) (T := 23) (E := 5) (xl := none) (xh := (some (.int .i64 ((min n_a n_b : Nat) : Int)))) (mx := none) (x := 0) (r := min n_a n_b) (m := c_b) (by kernel_rfl) (by kernel_rfl) (.inl ⟨rfl, rfl⟩) (.inr ⟨_, rfl⟩) (.inl ⟨rfl, rfl⟩) (by simp) (by omega) (by omega) (by omega) (by omega)
    refine anyM_take hT239 8 463 (some 73) (.slice a7 (min n_a n_b - 0) (c_b - 0)) (QPan.then put_panic_bodyPost) (by kernel_rfl) (by kernel_rfl) (show Ext w10 w10 from (Ext.refl _)) (yld_val (s := Instr.sliceAt 23 (.slice a_b n_b c_b) none (some (.int .i64 ((min n_a n_b : Nat) : Int))) none) (by kernel_rfl) (fun w' hC => hR2 _)) ?_
    refine anyM_run hT239 9 975 [(74, (.slice a_c n_c c_c))] (QPan.then put_panic_bodyPost) (by kernel_rfl) (by kernel_rfl) (show Ext w10 w10 from (Ext.refl _)) (fun _ => by kernel_rfl) ?_
    refine anyM_two 4 10 991 1999 (by kernel_rfl) (by kernel_rfl) (by kernel_rfl) ?_ ?_
    · refine op_new (d := (some 69)) (s := Instr.buildSlice 84 2 #[(0, (.slice a6 (min n_a n_b - 0) (c_a - 0))), (1, (.slice a_c n_c c_c))]) (.slice (some ⟨w10.heap.size, 0, none⟩) 2 2) [(.slice a6 (min n_a n_b - 0) (c_a - 0)), (.slice a_c n_c c_c)] 23 (by kernel_rfl) (by kernel_rfl) ?_
      intro w11 hBw11 hEw11
      have hzw11 := hEw11.size; have hlw11 := hBw11.lt
      have hSw11 : Ps 0 w11.heap.size w11 (some ⟨w10.heap.size, 0, none⟩) 2 2 [(.slice a6 (min n_a n_b - 0) (c_a - 0)), (.slice a_c n_c c_c)] [(a.drop 0).take (min n_a n_b - 0), c] := Ps.of_new hBw11 rfl (by decide) (Parts.cons (Part.at (hS1.ext hEw11)) (Parts.cons (Part.at (((((((((((((((((((((h_c.ext hEw1)).ext hEw2)).ext hEw3)).chg hCw4 (fun k h1 h2 hs => by have hn := hO1.ne hs; omega))).chg hCw5 (fun k h1 h2 hs => by have hn := hOw4.ne hs; omega))).chg hCw6 (fun k h1 h2 hs => by have hn := hOw5.ne hs; omega))).ext hEw7)).ext hEw8)).chg hCw9 (fun k h1 h2 hs => by have h : k = _ := hs; omega))).ext hEw10)).ext hEw11)) Parts.nil))
      refine ⟨.inr hEw11, ?_⟩
      refine anyM_two 5 10 1023 2015 (by kernel_rfl) (by kernel_rfl) (by kernel_rfl) ?_ ?_
      · refine op_callAt (d := (some 70)) (by kernel_rfl) (c_Join _ hSw11 (by simp [sumLen] <;> omega)) ?_
        rintro _ w12 ⟨a8, rfl, hFz4_0, hFz4_1, hFz4_2, hFz4_3, hEw12⟩
        have hzw12 := hEw12.size
        have hla8 := hFz4_1.lt; have hna8 := hFz4_3
        have hSa8 : Bs a8 (a8 + 1) w12 (some ⟨a8, 0, none⟩) (sumLen ([(a.drop 0).take (min n_a n_b - 0), c])) (sumLen ([(a.drop 0).take (min n_a n_b - 0), c])) (([(a.drop 0).take (min n_a n_b - 0), c]).flatten) := Bs.of_blk hFz4_1 rfl hFz4_2 (Nat.le_refl _) (le_maxLen hna8) (Nat.le_refl _) (Nat.lt_succ_self _)
        refine ⟨.inr (hEw11.trans hEw12), ?_⟩
        refine anyM_one 10 2047 (by kernel_rfl) (by kernel_rfl) (op_new (d := (some 75)) (s := Instr.buildSlice 84 2 #[(0, (.slice a7 (min n_a n_b - 0) (c_b - 0))), (1, (.slice a_c n_c c_c))]) (.slice (some ⟨w12.heap.size, 0, none⟩) 2 2) [(.slice a7 (min n_a n_b - 0) (c_b - 0)), (.slice a_c n_c c_c)] 23 (by kernel_rfl) (by kernel_rfl) ?_)
        intro w13 hBw13 hEw13
        have hzw13 := hEw13.size; have hlw13 := hBw13.lt
        have hSw13 : Ps 0 w13.heap.size w13 (some ⟨w12.heap.size, 0, none⟩) 2 2 [(.slice a7 (min n_a n_b - 0) (c_b - 0)), (.slice a_c n_c c_c)] [(b.drop 0).take (min n_a n_b - 0), c] := Ps.of_new hBw13 rfl (by decide) (Parts.cons (Part.at (((((hS2.ext hEw11)).ext hEw12)).ext hEw13)) (Parts.cons (Part.at (((((((((((((((((((((((((h_c.ext hEw1)).ext hEw2)).ext hEw3)).chg hCw4 (fun k h1 h2 hs => by have hn := hO1.ne hs; omega))).chg hCw5 (fun k h1 h2 hs => by have hn := hOw4.ne hs; omega))).chg hCw6 (fun k h1 h2 hs => by have hn := hOw5.ne hs; omega))).ext hEw7)).ext hEw8)).chg hCw9 (fun k h1 h2 hs => by have h : k = _ := hs; omega))).ext hEw10)).ext hEw11)).ext hEw12)).ext hEw13)) Parts.nil))
        refine ⟨.inr ((hEw11.trans hEw12).trans hEw13), ?_⟩
        refine anyM_one 11 4095 (by kernel_rfl) (by kernel_rfl) (op_callAt (d := (some 76)) (by kernel_rfl) (c_Join _ hSw13 (by simp [sumLen] <;> omega)) ?_)
        rintro _ w14 ⟨a9, rfl, hFz5_0, hFz5_1, hFz5_2, hFz5_3, hEw14⟩
        have hzw14 := hEw14.size
        have hla9 := hFz5_1.lt; have hna9 := hFz5_3
        have hSa9 : Bs a9 (a9 + 1) w14 (some ⟨a9, 0, none⟩) (sumLen ([(b.drop 0).take (min n_a n_b - 0), c])) (sumLen ([(b.drop 0).take (min n_a n_b - 0), c])) (([(b.drop 0).take (min n_a n_b - 0), c]).flatten) := Bs.of_blk hFz5_1 rfl hFz5_2 (Nat.le_refl _) (le_maxLen hna9) (Nat.le_refl _) (Nat.lt_succ_self _)
        refine ⟨.inr (((hEw11.trans hEw12).trans hEw13).trans hEw14), ?_⟩
        refine anyM_one 12 8191 (by kernel_rfl) (by kernel_rfl) (op_callAt (d := (some 77)) (by kernel_rfl) (c_Xor _ (((hSa8.ext hEw13)).ext hEw14) hSa9 (by simp [sumLen]; omega) (by omega)) ?_)
        rintro _ w15 ⟨a10, rfl, hFz6_0, hEw15⟩
        have hzw15 := hEw15.size
        refine ⟨.inr ((((hEw11.trans hEw12).trans hEw13).trans hEw14).trans hEw15), ?_⟩
        refine anyM_run hT239 13 16383 [(64, (.tuple #[(.slice a10 (sumLen ([(a.drop 0).take (min n_a n_b - 0), c])) (sumLen ([(a.drop 0).take (min n_a n_b - 0), c]))), (.int .i64 ((0 : Nat) : Int))]))] (QPan.then put_panic_bodyPost) (by kernel_rfl) (by kernel_rfl) (show Ext w10 w15 from ((((hEw11.trans hEw12).trans hEw13).trans hEw14).trans hEw15)) (fun _ => by kernel_rfl) ?_
        refine anyM_run hT239 14 32767 [(78, (.slice a10 (sumLen ([(a.drop 0).take (min n_a n_b - 0), c])) (sumLen ([(a.drop 0).take (min n_a n_b - 0), c]))))] (QPan.then put_panic_bodyPost) (by kernel_rfl) (by kernel_rfl) (show Ext w10 w15 from ((((hEw11.trans hEw12).trans hEw13).trans hEw14).trans hEw15)) (fun _ => by kernel_rfl) ?_
        refine anyM_run hT239 15 65535 [(79, (.int .i64 ((0 : Nat) : Int)))] (QPan.then put_panic_bodyPost) (by kernel_rfl) (by kernel_rfl) (show Ext w10 w15 from ((((hEw11.trans hEw12).trans hEw13).trans hEw14).trans hEw15)) (fun _ => by kernel_rfl) ?_
        refine anyM_run hT239 16 131071 [(10, (.slice a10 (sumLen ([(a.drop 0).take (min n_a n_b - 0), c])) (sumLen ([(a.drop 0).take (min n_a n_b - 0), c]))))] (QPan.then put_panic_bodyPost) (by kernel_rfl) (by kernel_rfl) (show Ext w10 w15 from ((((hEw11.trans hEw12).trans hEw13).trans hEw14).trans hEw15)) (fun _ => by kernel_rfl) ?_
        refine anyM_run hT239 17 262143 [(11, (.int .i64 ((0 : Nat) : Int)))] (QPan.then put_panic_bodyPost) (by kernel_rfl) (by kernel_rfl) (show Ext w10 w15 from ((((hEw11.trans hEw12).trans hEw13).trans hEw14).trans hEw15)) (fun _ => by kernel_rfl) ?_
        refine anyM_done (by kernel_rfl) ?_
        refine then_code ?_
        refine wpC_seq ?_
        refine wpC_drawM (Ext w15.drew) 12 [(82, 1, 0), (83, 512, 0), (84, 7253554917687775048237056, 3), (85, 2, 0), (86, 512, 0), (87, 58028439341502200385896448, 24), (88, 87042659012253300578844672, 36), (81, 154742504910672534362390528, 64), (89, 1208925819614629174706176, 128), (90, 1208925819614629174706176, 128), (13, 309485009821345068724781056, 511), (14, 618970019642690137449562112, 2047)] (by kernel_rfl) ⟨by kernel_rfl, by kernel_rfl, by kernel_rfl⟩ (fun hT289 => ?_)
        have hEw16 : Ext w15 w15.drew := Ext.drew w15
        generalize w15.drew = w16 at hEw16 ⊢
        have hzw16 := hEw16.size
        refine anyM_run hT289 0 1 [(81, (.slice a_a n_a c_a))] (QPan.then put_panic_bodyPost) (by kernel_rfl) (by kernel_rfl) (show Ext w16 w16 from (Ext.refl _)) (fun _ => by kernel_rfl) ?_
        refine anyM_run hT289 1 3 [(82, (.int .i64 ((min n_a n_b : Nat) : Int)))] (QPan.then put_panic_bodyPost) (by kernel_rfl) (by kernel_rfl) (show Ext w16 w16 from (Ext.refl _)) (fun _ => by kernel_rfl) ?_
        obtain ⟨a11, hR3, hS3⟩ := (((((((((((((((((((((((((((((((h_a.ext hEw1)).ext hEw2)).ext hEw3)).chg hCw4 (fun k h1 h2 hs => by have hn := hO1.ne hs; omega))).chg hCw5 (fun k h1 h2 hs => by have hn := hOw4.ne hs; omega))).chg hCw6 (fun k h1 h2 hs => by have hn := hOw5.ne hs; omega))).ext hEw7)).ext hEw8)).chg hCw9 (fun k h1 h2 hs => by have h : k = _ := hs; omega))).ext hEw10)).ext hEw11)).ext hEw12)).ext hEw13)).ext hEw14)).ext hEw15)).ext hEw16).slice (P := Try.prog) (T := 23) (E := 5) (xl := none) (xh := (some (.int .i64 ((min n_a n_b : Nat) : Int)))) (mx := none) (x := 0) (r := min n_a n_b) (m := c_a) (by kernel_rfl) (by kernel_rfl) (.inl ⟨rfl, rfl⟩) (.inr ⟨_, rfl⟩) (.inl ⟨rfl, rfl⟩) (by simp) (by omega) (by omega) (by omega) (by omega)
        refine anyM_take hT289 2 7 (some 83) (.slice a11 (min n_a n_b - 0) (c_a - 0)) (QPan.then put_panic_bodyPost) (by kernel_rfl) (by kernel_rfl) (show Ext w16 w16 from (Ext.refl _)) (yld_val (s := Instr.sliceAt 23 (.slice a_a n_a c_a) none (some (.int .i64 ((min n_a n_b : Nat) : Int))) none) (by kernel_rfl) (fun w' hC => hR3 _)) ?_
        refine anyM_run hT289 3 15 [(84, (.slice a_b n_b c_b))] (QPan.then put_panic_bodyPost) (by kernel_rfl) (by kernel_rfl) (show Ext w16 w16 from (Ext.refl _)) (fun _ => by kernel_rfl) ?_
        refine anyM_run hT289 4 31 [(85, (.int .i64 ((min n_a n_b : Nat) : Int)))] (QPan.then put_panic_bodyPost) (by kernel_rfl) (by kernel_rfl) (show Ext w16 w16 from (Ext.refl _)) (fun _ => by kernel_rfl) ?_
        obtain ⟨a12, hR4, hS4⟩ := (((((((((((((((((((((((((((((((h_b.ext hEw1)).ext hEw2)).ext hEw3)).chg hCw4 (fun k h1 h2 hs => by have hn := hO1.ne hs; omega))).chg hCw5 (fun k h1 h2 hs => by have hn := hOw4.ne hs; omega))).chg hCw6 (fun k h1 h2 hs => by have hn := hOw5.ne hs; omega))).ext hEw7)).ext hEw8)).chg hCw9 (fun k h1 h2 hs => by have h : k = _ := hs; omega))).ext hEw10)).ext hEw11)).ext hEw12)).ext hEw13)).ext hEw14)).ext hEw15)).ext hEw16).slice (P := Try.prog) (T := 23) (E := 5) (xl := none) (xh := (some (.int .i64 ((min n_a n_b : Nat) : Int)))) (mx := none) (x := 0) (r := min n_a n_b) (m := c_b) (by kernel_rfl) (by kernel_rfl) (.inl ⟨rfl, rfl⟩) (.inr ⟨_, rfl⟩) (.inl ⟨rfl, rfl⟩) (by simp) (by omega) (by omega) (by omega) (by omega)
        refine anyM_take hT289 5 63 (some 86) (.slice a12 (min n_a n_b - 0) (c_b - 0)) (QPan.then put_panic_bodyPost) (by kernel_rfl) (by kernel_rfl) (show Ext w16 w16 from (Ext.refl _)) (yld_val (s := Instr.sliceAt 23 (.slice a_b n_b c_b) none (some (.int .i64 ((min n_a n_b : Nat) : Int))) none) (by kernel_rfl) (fun w' hC => hR4 _)) ?_
        refine anyM_one 6 127 (by kernel_rfl) (by kernel_rfl) (op_callAt (d := (some 87)) (by kernel_rfl) (c_Xor _ hS3 hS4 (by omega) (by omega)) ?_)
        rintro _ w17 ⟨a13, rfl, hFz7_0, hEw17⟩
        have hzw17 := hEw17.size
        refine ⟨.inr hEw17, ?_⟩
        refine anyM_run hT289 7 255 [(80, (.tuple #[(.slice a13 (min n_a n_b - 0) (min n_a n_b - 0)), (.int .i64 ((0 : Nat) : Int))]))] (QPan.then put_panic_bodyPost) (by kernel_rfl) (by kernel_rfl) (show Ext w16 w17 from hEw17) (fun _ => by kernel_rfl) ?_
        refine anyM_run hT289 8 511 [(88, (.slice a13 (min n_a n_b - 0) (min n_a n_b - 0)))] (QPan.then put_panic_bodyPost) (by kernel_rfl) (by kernel_rfl) (show Ext w16 w17 from hEw17) (fun _ => by kernel_rfl) ?_
        refine anyM_run hT289 9 1023 [(89, (.int .i64 ((0 : Nat) : Int)))] (QPan.then put_panic_bodyPost) (by kernel_rfl) (by kernel_rfl) (show Ext w16 w17 from hEw17) (fun _ => by kernel_rfl) ?_
        refine anyM_run hT289 10 2047 [(12, (.slice a13 (min n_a n_b - 0) (min n_a n_b - 0)))] (QPan.then put_panic_bodyPost) (by kernel_rfl) (by kernel_rfl) (show Ext w16 w17 from hEw17) (fun _ => by kernel_rfl) ?_
        refine anyM_run hT289 11 4095 [(13, (.int .i64 ((0 : Nat) : Int)))] (QPan.then put_panic_bodyPost) (by kernel_rfl) (by kernel_rfl) (show Ext w16 w17 from hEw17) (fun _ => by kernel_rfl) ?_
        refine anyM_done (by kernel_rfl) ?_
        refine then_code ?_
        refine wpC_seq ?_
        refine wpC_region ?_
        refine wpF_run 1 [(90, (.int .i64 ((0 : Nat) : Int)))] (by kernel_rfl) ?_
        refine wpF_step (op_eqv (d := (some 91)) (.bool ((((0 : Nat) : Int) == ((0 : Nat) : Int)))) (.bool true) (by kernel_rfl) (congrArg Value.bool (cmpEqT rfl)) ?_)
        refine wpF_run 2 [(93, (.int .i64 ((0 : Nat) : Int))), (92, (.bool true))] (by kernel_rfl) ?_
        refine wpF_step (op_eqv (d := (some 94)) (.bool ((((0 : Nat) : Int) == ((0 : Nat) : Int)))) (.bool true) (by kernel_rfl) (congrArg Value.bool (cmpEqT rfl)) ?_)
        refine wpF_run 6 [(100, (.int .i64 ((n_c : Nat) : Int))), (99, (.slice a_c n_c c_c)), (98, (.slice a13 (min n_a n_b - 0) (min n_a n_b - 0))), (97, (.slice a10 (sumLen ([(a.drop 0).take (min n_a n_b - 0), c])) (sumLen ([(a.drop 0).take (min n_a n_b - 0), c])))), (96, (.bool true)), (95, (.bool true))] (by kernel_rfl) ?_
        refine wpF_step (op_make (d := (some 101)) 23 5 1 1 n_c .i64 .i64 (.int .u8 ((0 : Nat) : Int)) (by kernel_rfl) (by kernel_rfl) (by kernel_rfl) (by omega) (by omega) ?_)
        rw [show (Value.cells (.int .u8 ((0 : Nat) : Int))) = #[(.int .u8 ((0 : Nat) : Int))] from rfl, Nat.mul_one, madeCells_one]
        intro w18 hBw18 hEw18
        have hzw18 := hEw18.size; have hlw18 := hBw18.lt
        have hSw18 : Bs w17.heap.size (w17.heap.size + 1) w18 (some ⟨w17.heap.size, 0, none⟩) n_c n_c (List.replicate n_c 0) := Bs.of_blk hBw18 (u8s_zero _) (by simp) (Nat.le_refl _) (by simp only [maxLen]; omega) (Nat.le_refl _) (Nat.lt_succ_self _)
        refine wpF_step (op_new (d := (some 102)) (s := Instr.buildSlice 84 2 #[(0, (.slice a13 (min n_a n_b - 0) (min n_a n_b - 0))), (1, (.slice (some ⟨w17.heap.size, 0, none⟩) n_c n_c))]) (.slice (some ⟨w18.heap.size, 0, none⟩) 2 2) [(.slice a13 (min n_a n_b - 0) (min n_a n_b - 0)), (.slice (some ⟨w17.heap.size, 0, none⟩) n_c n_c)] 23 (by kernel_rfl) (by kernel_rfl) ?_)
        intro w19 hBw19 hEw19
        have hzw19 := hEw19.size; have hlw19 := hBw19.lt
        have hSw19 : Ps 0 w19.heap.size w19 (some ⟨w18.heap.size, 0, none⟩) 2 2 [(.slice a13 (min n_a n_b - 0) (min n_a n_b - 0)), (.slice (some ⟨w17.heap.size, 0, none⟩) n_c n_c)] [xorl ((a.drop 0).take (min n_a n_b - 0)) ((b.drop 0).take (min n_a n_b - 0)), List.replicate n_c 0] := Ps.of_new hBw19 rfl (by decide) (Parts.cons (Part.at (((hFz7_0.ext hEw18)).ext hEw19)) (Parts.cons (Part.at (hSw18.ext hEw19)) Parts.nil))
        refine wpF_step (op_callAt (d := (some 103)) (by kernel_rfl) (c_Join _ hSw19 (by simp only [sumLen, List.map_cons, List.map_nil, List.sum_cons, List.sum_nil, List.length_replicate]; rw [xorl_length (by simp; omega)]; simp; omega)) ?_)
        rintro _ w20 ⟨a14, rfl, hFz8_0, hFz8_1, hFz8_2, hFz8_3, hEw20⟩
        have hzw20 := hEw20.size
        have hla14 := hFz8_1.lt; have hna14 := hFz8_3
        have hSa14 : Bs a14 (a14 + 1) w20 (some ⟨a14, 0, none⟩) (sumLen ([xorl ((a.drop 0).take (min n_a n_b - 0)) ((b.drop 0).take (min n_a n_b - 0)), List.replicate n_c 0])) (sumLen ([xorl ((a.drop 0).take (min n_a n_b - 0)) ((b.drop 0).take (min n_a n_b - 0)), List.replicate n_c 0])) (([xorl ((a.drop 0).take (min n_a n_b - 0)) ((b.drop 0).take (min n_a n_b - 0)), List.replicate n_c 0]).flatten) := Bs.of_blk hFz8_1 rfl hFz8_2 (Nat.le_refl _) (le_maxLen hna14) (Nat.le_refl _) (Nat.lt_succ_self _)
        refine wpF_step (op_callAt (d := (some 104)) (by kernel_rfl) (c_same1 0 0 _ (((((((((hFz6_0.ext hEw16)).ext hEw17)).ext hEw18)).ext hEw19)).ext hEw20) hSa14 (rfl) (join_xor (by simp; omega) hlc) (rfl)) ?_)
        rintro _ _ ⟨rfl, rfl⟩
        refine wpF_run 2 [(106, (.bool true)), (105, (.bool true))] (by kernel_rfl) ?_
        refine wpF_step (op_callAt (d := (some 107)) (by kernel_rfl) (c_lives1 _) ?_)
        rintro _ w21 ⟨rfl, hEw21⟩
        have hzw21 := hEw21.size
        refine wpF_run 2 [(6, (.bool true)), (108, (.bool true))] (by kernel_rfl) ?_
        refine wpF_end (by kernel_rfl) ?_
        refine then_code ?_
        refine wpC_ret ?_
        refine body_ret1 (by kernel_rfl) (show resVal Try.prog 109 _ _ (.tmp 6) (.bool true) by (show _ = _; kernel_rfl)) ?_
        exact ⟨rfl, (((((((((((((Ext.own (((Ext.ownS (Ext.ownS (Ext.ownS ((hEw1.trans hEw2).trans hEw3) hCw4 (fun k hs hk => by have hn := hO1.ne hs; omega)) hCw5 (fun k hs hk => by have hn := hOw4.ne hs; omega)) hCw6 (fun k hs hk => by have hn := hOw5.ne hs; omega)).trans hEw7).trans hEw8) hCw9 (by omega)).trans hEw10).trans hEw11).trans hEw12).trans hEw13).trans hEw14).trans hEw15).trans hEw16).trans hEw17).trans hEw18).trans hEw19).trans hEw20).trans hEw21)⟩
      · refine op_new (d := (some 75)) (s := Instr.buildSlice 84 2 #[(0, (.slice a7 (min n_a n_b - 0) (c_b - 0))), (1, (.slice a_c n_c c_c))]) (.slice (some ⟨w11.heap.size, 0, none⟩) 2 2) [(.slice a7 (min n_a n_b - 0) (c_b - 0)), (.slice a_c n_c c_c)] 23 (by kernel_rfl) (by kernel_rfl) ?_
        intro w22 hBw22 hEw22
        have hzw22 := hEw22.size; have hlw22 := hBw22.lt
        have hSw22 : Ps 0 w22.heap.size w22 (some ⟨w11.heap.size, 0, none⟩) 2 2 [(.slice a7 (min n_a n_b - 0) (c_b - 0)), (.slice a_c n_c c_c)] [(b.drop 0).take (min n_a n_b - 0), c] := Ps.of_new hBw22 rfl (by decide) (Parts.cons (Part.at (((hS2.ext hEw11)).ext hEw22)) (Parts.cons (Part.at (((((((((((((((((((((((h_c.ext hEw1)).ext hEw2)).ext hEw3)).chg hCw4 (fun k h1 h2 hs => by have hn := hO1.ne hs; omega))).chg hCw5 (fun k h1 h2 hs => by have hn := hOw4.ne hs; omega))).chg hCw6 (fun k h1 h2 hs => by have hn := hOw5.ne hs; omega))).ext hEw7)).ext hEw8)).chg hCw9 (fun k h1 h2 hs => by have h : k = _ := hs; omega))).ext hEw10)).ext hEw11)).ext hEw22)) Parts.nil))
        refine ⟨.inr (hEw11.trans hEw22), ?_⟩
        refine anyM_one 5 2047 (by kernel_rfl) (by kernel_rfl) (op_callAt (d := (some 70)) (by kernel_rfl) (c_Join _ (hSw11.ext hEw22) (by simp [sumLen] <;> omega)) ?_)
        rintro _ w23 ⟨a15, rfl, hFz11_0, hFz11_1, hFz11_2, hFz11_3, hEw23⟩
        have hzw23 := hEw23.size
        have hla15 := hFz11_1.lt; have hna15 := hFz11_3
        have hSa15 : Bs a15 (a15 + 1) w23 (some ⟨a15, 0, none⟩) (sumLen ([(a.drop 0).take (min n_a n_b - 0), c])) (sumLen ([(a.drop 0).take (min n_a n_b - 0), c])) (([(a.drop 0).take (min n_a n_b - 0), c]).flatten) := Bs.of_blk hFz11_1 rfl hFz11_2 (Nat.le_refl _) (le_maxLen hna15) (Nat.le_refl _) (Nat.lt_succ_self _)
        refine ⟨.inr ((hEw11.trans hEw22).trans hEw23), ?_⟩
        refine anyM_one 11 4095 (by kernel_rfl) (by kernel_rfl) (op_callAt (d := (some 76)) (by kernel_rfl) (c_Join _ (hSw22.ext hEw23) (by simp [sumLen] <;> omega)) ?_)
        rintro _ w24 ⟨a16, rfl, hFz12_0, hFz12_1, hFz12_2, hFz12_3, hEw24⟩
        have hzw24 := hEw24.size
        have hla16 := hFz12_1.lt; have hna16 := hFz12_3
        have hSa16 : Bs a16 (a16 + 1) w24 (some ⟨a16, 0, none⟩) (sumLen ([(b.drop 0).take (min n_a n_b - 0), c])) (sumLen ([(b.drop 0).take (min n_a n_b - 0), c])) (([(b.drop 0).take (min n_a n_b - 0), c]).flatten) := Bs.of_blk hFz12_1 rfl hFz12_2 (Nat.le_refl _) (le_maxLen hna16) (Nat.le_refl _) (Nat.lt_succ_self _)
        refine ⟨.inr (((hEw11.trans hEw22).trans hEw23).trans hEw24), ?_⟩
        refine anyM_one 12 8191 (by kernel_rfl) (by kernel_rfl) (op_callAt (d := (some 77)) (by kernel_rfl) (c_Xor _ (hSa15.ext hEw24) hSa16 (by simp [sumLen]; omega) (by omega)) ?_)
        rintro _ w25 ⟨a17, rfl, hFz13_0, hEw25⟩
        have hzw25 := hEw25.size
        refine ⟨.inr ((((hEw11.trans hEw22).trans hEw23).trans hEw24).trans hEw25), ?_⟩
        refine anyM_run hT239 13 16383 [(64, (.tuple #[(.slice a17 (sumLen ([(a.drop 0).take (min n_a n_b - 0), c])) (sumLen ([(a.drop 0).take (min n_a n_b - 0), c]))), (.int .i64 ((0 : Nat) : Int))]))] (QPan.then put_panic_bodyPost) (by kernel_rfl) (by kernel_rfl) (show Ext w10 w25 from ((((hEw11.trans hEw22).trans hEw23).trans hEw24).trans hEw25)) (fun _ => by kernel_rfl) ?_
        refine anyM_run hT239 14 32767 [(78, (.slice a17 (sumLen ([(a.drop 0).take (min n_a n_b - 0), c])) (sumLen ([(a.drop 0).take (min n_a n_b - 0), c]))))] (QPan.then put_panic_bodyPost) (by kernel_rfl) (by kernel_rfl) (show Ext w10 w25 from ((((hEw11.trans hEw22).trans hEw23).trans hEw24).trans hEw25)) (fun _ => by kernel_rfl) ?_
        refine anyM_run hT239 15 65535 [(79, (.int .i64 ((0 : Nat) : Int)))] (QPan.then put_panic_bodyPost) (by kernel_rfl) (by kernel_rfl) (show Ext w10 w25 from ((((hEw11.trans hEw22).trans hEw23).trans hEw24).trans hEw25)) (fun _ => by kernel_rfl) ?_
        refine anyM_run hT239 16 131071 [(10, (.slice a17 (sumLen ([(a.drop 0).take (min n_a n_b - 0), c])) (sumLen ([(a.drop 0).take (min n_a n_b - 0), c]))))] (QPan.then put_panic_bodyPost) (by kernel_rfl) (by kernel_rfl) (show Ext w10 w25 from ((((hEw11.trans hEw22).trans hEw23).trans hEw24).trans hEw25)) (fun _ => by kernel_rfl) ?_
        refine anyM_run hT239 17 262143 [(11, (.int .i64 ((0 : Nat) : Int)))] (QPan.then put_panic_bodyPost) (by kernel_rfl) (by kernel_rfl) (show Ext w10 w25 from ((((hEw11.trans hEw22).trans hEw23).trans hEw24).trans hEw25)) (fun _ => by kernel_rfl) ?_
        refine anyM_done (by kernel_rfl) ?_
        refine then_code ?_
        refine wpC_seq ?_
        refine wpC_drawM (Ext w25.drew) 12 [(82, 1, 0), (83, 512, 0), (84, 7253554917687775048237056, 3), (85, 2, 0), (86, 512, 0), (87, 58028439341502200385896448, 24), (88, 87042659012253300578844672, 36), (81, 154742504910672534362390528, 64), (89, 1208925819614629174706176, 128), (90, 1208925819614629174706176, 128), (13, 309485009821345068724781056, 511), (14, 618970019642690137449562112, 2047)] (by kernel_rfl) ⟨by kernel_rfl, by kernel_rfl, by kernel_rfl⟩ (fun hT374 => ?_)
        have hEw26 : Ext w25 w25.drew := Ext.drew w25
        generalize w25.drew = w26 at hEw26 ⊢
        have hzw26 := hEw26.size
        refine anyM_run hT374 0 1 [(81, (.slice a_a n_a c_a))] (QPan.then put_panic_bodyPost) (by kernel_rfl) (by kernel_rfl) (show Ext w26 w26 from (Ext.refl _)) (fun _ => by kernel_rfl) ?_
        refine anyM_run hT374 1 3 [(82, (.int .i64 ((min n_a n_b : Nat) : Int)))] (QPan.then put_panic_bodyPost) (by kernel_rfl) (by kernel_rfl) (show Ext w26 w26 from (Ext.refl _)) (fun _ => by kernel_rfl) ?_
        obtain ⟨a18, hR5, hS5⟩ := (((((((((((((((((((((((((((((((h_a.ext hEw1)).ext hEw2)).ext hEw3)).chg hCw4 (fun k h1 h2 hs => by have hn := hO1.ne hs; omega))).chg hCw5 (fun k h1 h2 hs => by have hn := hOw4.ne hs; omega))).chg hCw6 (fun k h1 h2 hs => by have hn := hOw5.ne hs; omega))).ext hEw7)).ext hEw8)).chg hCw9 (fun k h1 h2 hs => by have h : k = _ := hs; omega))).ext hEw10)).ext hEw11)).ext hEw22)).ext hEw23)).ext hEw24)).ext hEw25)).ext hEw26).slice (P := Try.prog) (T := 23) (E := 5) (xl := none) (xh := (some (.int .i64 ((min n_a n_b : Nat) : Int)))) (mx := none) (x := 0) (r := min n_a n_b) (m := c_a) (by kernel_rfl) (by kernel_rfl) (.inl ⟨rfl, rfl⟩) (.inr ⟨_, rfl⟩) (.inl ⟨rfl, rfl⟩) (by simp) (by omega) (by omega) (by omega) (by omega)
        refine anyM_take hT374 2 7 (some 83) (.slice a18 (min n_a n_b - 0) (c_a - 0)) (QPan.then put_panic_bodyPost) (by kernel_rfl) (by kernel_rfl) (show Ext w26 w26 from (Ext.refl _)) (yld_val (s := Instr.sliceAt 23 (.slice a_a n_a c_a) none (some (.int .i64 ((min n_a n_b : Nat) : Int))) none) (by kernel_rfl) (fun w' hC => hR5 _)) ?_
        refine anyM_run hT374 3 15 [(84, (.slice a_b n_b c_b))] (QPan.then put_panic_bodyPost) (by kernel_rfl) (by kernel_rfl) (show Ext w26 w26 from (Ext.refl _)) (fun _ => by kernel_rfl) ?_
        refine anyM_run hT374 4 31 [(85, (.int .i64 ((min n_a n_b : Nat) : Int)))] (QPan.then put_panic_bodyPost) (by kernel_rfl) (by kernel_rfl) (show Ext w26 w26 from (Ext.refl _)) (fun _ => by kernel_rfl) ?_
        obtain ⟨a19, hR6, hS6⟩ := (((((((((((((((((((((((((((((((h_b.ext hEw1)).ext hEw2)).ext hEw3)).chg hCw4 (fun k h1 h2 hs => by have hn := hO1.ne hs; omega))).chg hCw5 (fun k h1 h2 hs => by have hn := hOw4.ne hs; omega))).chg hCw6 (fun k h1 h2 hs => by have hn := hOw5.ne hs; omega))).ext hEw7)).ext hEw8)).chg hCw9 (fun k h1 h2 hs => by have h : k = _ := hs; omega))).ext hEw10)).ext hEw11)).ext hEw22)).ext hEw23)).ext hEw24)).ext hEw25)).ext hEw26).slice (P := Try.prog) (T := 23) (E := 5) (xl := none) (xh := (some (.int .i64 ((min n_a n_b : Nat) : Int)))) (mx := none) (x := 0) (r := min n_a n_b) (m := c_b) (by kernel_rfl) (by kernel_rfl) (.inl ⟨rfl, rfl⟩) (.inr ⟨_, rfl⟩) (.inl ⟨rfl, rfl⟩) (by simp) (by omega) (by omega) (by omega) (by omega)
        refine anyM_take hT374 5 63 (some 86) (.slice a19 (min n_a n_b - 0) (c_b - 0)) (QPan.then put_panic_bodyPost) (by kernel_rfl) (by kernel_rfl) (show Ext w26 w26 from (Ext.refl _)) (yld_val (s := Instr.sliceAt 23 (.slice a_b n_b c_b) none (some (.int .i64 ((min n_a n_b : Nat) : Int))) none) (by kernel_rfl) (fun w' hC => hR6 _)) ?_
        refine anyM_one 6 127 (by kernel_rfl) (by kernel_rfl) (op_callAt (d := (some 87)) (by kernel_rfl) (c_Xor _ hS5 hS6 (by omega) (by omega)) ?_)
        rintro _ w27 ⟨a20, rfl, hFz14_0, hEw27⟩
        have hzw27 := hEw27.size
        refine ⟨.inr hEw27, ?_⟩
        refine anyM_run hT374 7 255 [(80, (.tuple #[(.slice a20 (min n_a n_b - 0) (min n_a n_b - 0)), (.int .i64 ((0 : Nat) : Int))]))] (QPan.then put_panic_bodyPost) (by kernel_rfl) (by kernel_rfl) (show Ext w26 w27 from hEw27) (fun _ => by kernel_rfl) ?_
        refine anyM_run hT374 8 511 [(88, (.slice a20 (min n_a n_b - 0) (min n_a n_b - 0)))] (QPan.then put_panic_bodyPost) (by kernel_rfl) (by kernel_rfl) (show Ext w26 w27 from hEw27) (fun _ => by kernel_rfl) ?_
        refine anyM_run hT374 9 1023 [(89, (.int .i64 ((0 : Nat) : Int)))] (QPan.then put_panic_bodyPost) (by kernel_rfl) (by kernel_rfl) (show Ext w26 w27 from hEw27) (fun _ => by kernel_rfl) ?_
        refine anyM_run hT374 10 2047 [(12, (.slice a20 (min n_a n_b - 0) (min n_a n_b - 0)))] (QPan.then put_panic_bodyPost) (by kernel_rfl) (by kernel_rfl) (show Ext w26 w27 from hEw27) (fun _ => by kernel_rfl) ?_
        refine anyM_run hT374 11 4095 [(13, (.int .i64 ((0 : Nat) : Int)))] (QPan.then put_panic_bodyPost) (by kernel_rfl) (by kernel_rfl) (show Ext w26 w27 from hEw27) (fun _ => by kernel_rfl) ?_
        refine anyM_done (by kernel_rfl) ?_
        refine then_code ?_
        refine wpC_seq ?_
        refine wpC_region ?_
        refine wpF_run 1 [(90, (.int .i64 ((0 : Nat) : Int)))] (by kernel_rfl) ?_
        refine wpF_step (op_eqv (d := (some 91)) (.bool ((((0 : Nat) : Int) == ((0 : Nat) : Int)))) (.bool true) (by kernel_rfl) (congrArg Value.bool (cmpEqT rfl)) ?_)
        refine wpF_run 2 [(93, (.int .i64 ((0 : Nat) : Int))), (92, (.bool true))] (by kernel_rfl) ?_
        refine wpF_step (op_eqv (d := (some 94)) (.bool ((((0 : Nat) : Int) == ((0 : Nat) : Int)))) (.bool true) (by kernel_rfl) (congrArg Value.bool (cmpEqT rfl)) ?_)
        refine wpF_run 6 [(100, (.int .i64 ((n_c : Nat) : Int))), (99, (.slice a_c n_c c_c)), (98, (.slice a20 (min n_a n_b - 0) (min n_a n_b - 0))), (97, (.slice a17 (sumLen ([(a.drop 0).take (min n_a n_b - 0), c])) (sumLen ([(a.drop 0).take (min n_a n_b - 0), c])))), (96, (.bool true)), (95, (.bool true))] (by kernel_rfl) ?_
        refine wpF_step (op_make (d := (some 101)) 23 5 1 1 n_c .i64 .i64 (.int .u8 ((0 : Nat) : Int)) (by kernel_rfl) (by kernel_rfl) (by kernel_rfl) (by omega) (by omega) ?_)
        rw [show (Value.cells (.int .u8 ((0 : Nat) : Int))) = #[(.int .u8 ((0 : Nat) : Int))] from rfl, Nat.mul_one, madeCells_one]
        intro w28 hBw28 hEw28
        have hzw28 := hEw28.size; have hlw28 := hBw28.lt
        have hSw28 : Bs w27.heap.size (w27.heap.size + 1) w28 (some ⟨w27.heap.size, 0, none⟩) n_c n_c (List.replicate n_c 0) := Bs.of_blk hBw28 (u8s_zero _) (by simp) (Nat.le_refl _) (by simp only [maxLen]; omega) (Nat.le_refl _) (Nat.lt_succ_self _)
        refine wpF_step (op_new (d := (some 102)) (s := Instr.buildSlice 84 2 #[(0, (.slice a20 (min n_a n_b - 0) (min n_a n_b - 0))), (1, (.slice (some ⟨w27.heap.size, 0, none⟩) n_c n_c))]) (.slice (some ⟨w28.heap.size, 0, none⟩) 2 2) [(.slice a20 (min n_a n_b - 0) (min n_a n_b - 0)), (.slice (some ⟨w27.heap.size, 0, none⟩) n_c n_c)] 23 (by kernel_rfl) (by kernel_rfl) ?_)
        intro w29 hBw29 hEw29
        have hzw29 := hEw29.size; have hlw29 := hBw29.lt
        have hSw29 : Ps 0 w29.heap.size w29 (some ⟨w28.heap.size, 0, none⟩) 2 2 [(.slice a20 (min n_a n_b - 0) (min n_a n_b - 0)), (.slice (some ⟨w27.heap.size, 0, none⟩) n_c n_c)] [xorl ((a.drop 0).take (min n_a n_b - 0)) ((b.drop 0).take (min n_a n_b - 0)), List.replicate n_c 0] := Ps.of_new hBw29 rfl (by decide) (Parts.cons (Part.at (((hFz14_0.ext hEw28)).ext hEw29)) (Parts.cons (Part.at (hSw28.ext hEw29)) Parts.nil))
        refine wpF_step (op_callAt (d := (some 103)) (by kernel_rfl) (c_Join _ hSw29 (by simp only [sumLen, List.map_cons, List.map_nil, List.sum_cons, List.sum_nil, List.length_replicate]; rw [xorl_length (by simp; omega)]; simp; omega)) ?_)
        rintro _ w30 ⟨a21, rfl, hFz15_0, hFz15_1, hFz15_2, hFz15_3, hEw30⟩
        have hzw30 := hEw30.size
        have hla21 := hFz15_1.lt; have hna21 := hFz15_3
        have hSa21 : Bs a21 (a21 + 1) w30 (some ⟨a21, 0, none⟩) (sumLen ([xorl ((a.drop 0).take (min n_a n_b - 0)) ((b.drop 0).take (min n_a n_b - 0)), List.replicate n_c 0])) (sumLen ([xorl ((a.drop 0).take (min n_a n_b - 0)) ((b.drop 0).take (min n_a n_b - 0)), List.replicate n_c 0])) (([xorl ((a.drop 0).take (min n_a n_b - 0)) ((b.drop 0).take (min n_a n_b - 0)), List.replicate n_c 0]).flatten) := Bs.of_blk hFz15_1 rfl hFz15_2 (Nat.le_refl _) (le_maxLen hna21) (Nat.le_refl _) (Nat.lt_succ_self _)
        refine wpF_step (op_callAt (d := (some 104)) (by kernel_rfl) (c_same1 0 0 _ (((((((((hFz13_0.ext hEw26)).ext hEw27)).ext hEw28)).ext hEw29)).ext hEw30) hSa21 (rfl) (join_xor (by simp; omega) hlc) (rfl)) ?_)
        rintro _ _ ⟨rfl, rfl⟩
        refine wpF_run 2 [(106, (.bool true)), (105, (.bool true))] (by kernel_rfl) ?_
        refine wpF_step (op_callAt (d := (some 107)) (by kernel_rfl) (c_lives1 _) ?_)
        rintro _ w31 ⟨rfl, hEw31⟩
        have hzw31 := hEw31.size
        refine wpF_run 2 [(6, (.bool true)), (108, (.bool true))] (by kernel_rfl) ?_
        refine wpF_end (by kernel_rfl) ?_
        refine then_code ?_
        refine wpC_ret ?_
        refine body_ret1 (by kernel_rfl) (show resVal Try.prog 109 _ _ (.tmp 6) (.bool true) by (show _ = _; kernel_rfl)) ?_
        exact ⟨rfl, (((((((((((((Ext.own (((Ext.ownS (Ext.ownS (Ext.ownS ((hEw1.trans hEw2).trans hEw3) hCw4 (fun k hs hk => by have hn := hO1.ne hs; omega)) hCw5 (fun k hs hk => by have hn := hOw4.ne hs; omega)) hCw6 (fun k hs hk => by have hn := hOw5.ne hs; omega)).trans hEw7).trans hEw8) hCw9 (by omega)).trans hEw10).trans hEw11).trans hEw22).trans hEw23).trans hEw24).trans hEw25).trans hEw26).trans hEw27).trans hEw28).trans hEw29).trans hEw30).trans hEw31)⟩
    · refine op_new (d := (some 75)) (s := Instr.buildSlice 84 2 #[(0, (.slice a7 (min n_a n_b - 0) (c_b - 0))), (1, (.slice a_c n_c c_c))]) (.slice (some ⟨w10.heap.size, 0, none⟩) 2 2) [(.slice a7 (min n_a n_b - 0) (c_b - 0)), (.slice a_c n_c c_c)] 23 (by kernel_rfl) (by kernel_rfl) ?_
      intro w32 hBw32 hEw32
      have hzw32 := hEw32.size; have hlw32 := hBw32.lt
      have hSw32 : Ps 0 w32.heap.size w32 (some ⟨w10.heap.size, 0, none⟩) 2 2 [(.slice a7 (min n_a n_b - 0) (c_b - 0)), (.slice a_c n_c c_c)] [(b.drop 0).take (min n_a n_b - 0), c] := Ps.of_new hBw32 rfl (by decide) (Parts.cons (Part.at (hS2.ext hEw32)) (Parts.cons (Part.at (((((((((((((((((((((h_c.ext hEw1)).ext hEw2)).ext hEw3)).chg hCw4 (fun k h1 h2 hs => by have hn := hO1.ne hs; omega))).chg hCw5 (fun k h1 h2 hs => by have hn := hOw4.ne hs; omega))).chg hCw6 (fun k h1 h2 hs => by have hn := hOw5.ne hs; omega))).ext hEw7)).ext hEw8)).chg hCw9 (fun k h1 h2 hs => by have h : k = _ := hs; omega))).ext hEw10)).ext hEw32)) Parts.nil))
      refine ⟨.inr hEw32, ?_⟩
      refine anyM_one 4 2015 (by kernel_rfl) (by kernel_rfl) (op_new (d := (some 69)) (s := Instr.buildSlice 84 2 #[(0, (.slice a6 (min n_a n_b - 0) (c_a - 0))), (1, (.slice a_c n_c c_c))]) (.slice (some ⟨w32.heap.size, 0, none⟩) 2 2) [(.slice a6 (min n_a n_b - 0) (c_a - 0)), (.slice a_c n_c c_c)] 23 (by kernel_rfl) (by kernel_rfl) ?_)
      intro w33 hBw33 hEw33
      have hzw33 := hEw33.size; have hlw33 := hBw33.lt
      have hSw33 : Ps 0 w33.heap.size w33 (some ⟨w32.heap.size, 0, none⟩) 2 2 [(.slice a6 (min n_a n_b - 0) (c_a - 0)), (.slice a_c n_c c_c)] [(a.drop 0).take (min n_a n_b - 0), c] := Ps.of_new hBw33 rfl (by decide) (Parts.cons (Part.at (((hS1.ext hEw32)).ext hEw33)) (Parts.cons (Part.at (((((((((((((((((((((((h_c.ext hEw1)).ext hEw2)).ext hEw3)).chg hCw4 (fun k h1 h2 hs => by have hn := hO1.ne hs; omega))).chg hCw5 (fun k h1 h2 hs => by have hn := hOw4.ne hs; omega))).chg hCw6 (fun k h1 h2 hs => by have hn := hOw5.ne hs; omega))).ext hEw7)).ext hEw8)).chg hCw9 (fun k h1 h2 hs => by have h : k = _ := hs; omega))).ext hEw10)).ext hEw32)).ext hEw33)) Parts.nil))
      refine ⟨.inr (hEw32.trans hEw33), ?_⟩
      refine anyM_one 5 2047 (by kernel_rfl) (by kernel_rfl) (op_callAt (d := (some 70)) (by kernel_rfl) (c_Join _ hSw33 (by simp [sumLen] <;> omega)) ?_)
      rintro _ w34 ⟨a22, rfl, hFz18_0, hFz18_1, hFz18_2, hFz18_3, hEw34⟩
      have hzw34 := hEw34.size
      have hla22 := hFz18_1.lt; have hna22 := hFz18_3
      have hSa22 : Bs a22 (a22 + 1) w34 (some ⟨a22, 0, none⟩) (sumLen ([(a.drop 0).take (min n_a n_b - 0), c])) (sumLen ([(a.drop 0).take (min n_a n_b - 0), c])) (([(a.drop 0).take (min n_a n_b - 0), c]).flatten) := Bs.of_blk hFz18_1 rfl hFz18_2 (Nat.le_refl _) (le_maxLen hna22) (Nat.le_refl _) (Nat.lt_succ_self _)
      refine ⟨.inr ((hEw32.trans hEw33).trans hEw34), ?_⟩
      refine anyM_one 11 4095 (by kernel_rfl) (by kernel_rfl) (op_callAt (d := (some 76)) (by kernel_rfl) (c_Join _ (((hSw32.ext hEw33)).ext hEw34) (by simp [sumLen] <;> omega)) ?_)
      rintro _ w35 ⟨a23, rfl, hFz19_0, hFz19_1, hFz19_2, hFz19_3, hEw35⟩
      have hzw35 := hEw35.size
      have hla23 := hFz19_1.lt; have hna23 := hFz19_3
      have hSa23 : Bs a23 (a23 + 1) w35 (some ⟨a23, 0, none⟩) (sumLen ([(b.drop 0).take (min n_a n_b - 0), c])) (sumLen ([(b.drop 0).take (min n_a n_b - 0), c])) (([(b.drop 0).take (min n_a n_b - 0), c]).flatten) := Bs.of_blk hFz19_1 rfl hFz19_2 (Nat.le_refl _) (le_maxLen hna23) (Nat.le_refl _) (Nat.lt_succ_self _)
      refine ⟨.inr (((hEw32.trans hEw33).trans hEw34).trans hEw35), ?_⟩
      refine anyM_one 12 8191 (by kernel_rfl) (by kernel_rfl) (op_callAt (d := (some 77)) (by kernel_rfl) (c_Xor _ (hSa22.ext hEw35) hSa23 (by simp [sumLen]; omega) (by omega)) ?_)
      rintro _ w36 ⟨a24, rfl, hFz20_0, hEw36⟩
      have hzw36 := hEw36.size
      refine ⟨.inr ((((hEw32.trans hEw33).trans hEw34).trans hEw35).trans hEw36), ?_⟩
      refine anyM_run hT239 13 16383 [(64, (.tuple #[(.slice a24 (sumLen ([(a.drop 0).take (min n_a n_b - 0), c])) (sumLen ([(a.drop 0).take (min n_a n_b - 0), c]))), (.int .i64 ((0 : Nat) : Int))]))] (QPan.then put_panic_bodyPost) (by kernel_rfl) (by kernel_rfl) (show Ext w10 w36 from ((((hEw32.trans hEw33).trans hEw34).trans hEw35).trans hEw36)) (fun _ => by kernel_rfl) ?_
      refine anyM_run hT239 14 32767 [(78, (.slice a24 (sumLen ([(a.drop 0).take (min n_a n_b - 0), c])) (sumLen ([(a.drop 0).take (min n_a n_b - 0), c]))))] (QPan.then put_panic_bodyPost) (by kernel_rfl) (by kernel_rfl) (show Ext w10 w36 from ((((hEw32.trans hEw33).trans hEw34).trans hEw35).trans hEw36)) (fun _ => by kernel_rfl) ?_
      refine anyM_run hT239 15 65535 [(79, (.int .i64 ((0 : Nat) : Int)))] (QPan.then put_panic_bodyPost) (by kernel_rfl) (by kernel_rfl) (show Ext w10 w36 from ((((hEw32.trans hEw33).trans hEw34).trans hEw35).trans hEw36)) (fun _ => by kernel_rfl) ?_
      refine anyM_run hT239 16 131071 [(10, (.slice a24 (sumLen ([(a.drop 0).take (min n_a n_b - 0), c])) (sumLen ([(a.drop 0).take (min n_a n_b - 0), c]))))] (QPan.then put_panic_bodyPost) (by kernel_rfl) (by kernel_rfl) (show Ext w10 w36 from ((((hEw32.trans hEw33).trans hEw34).trans hEw35).trans hEw36)) (fun _ => by kernel_rfl) ?_
      refine anyM_run hT239 17 262143 [(11, (.int .i64 ((0 : Nat) : Int)))] (QPan.then put_panic_bodyPost) (by kernel_rfl) (by kernel_rfl) (show Ext w10 w36 from ((((hEw32.trans hEw33).trans hEw34).trans hEw35).trans hEw36)) (fun _ => by kernel_rfl) ?_
      refine anyM_done (by kernel_rfl) ?_
      refine then_code ?_
      refine wpC_seq ?_
      refine wpC_drawM (Ext w36.drew) 12 [(82, 1, 0), (83, 512, 0), (84, 7253554917687775048237056, 3), (85, 2, 0), (86, 512, 0), (87, 58028439341502200385896448, 24), (88, 87042659012253300578844672, 36), (81, 154742504910672534362390528, 64), (89, 1208925819614629174706176, 128), (90, 1208925819614629174706176, 128), (13, 309485009821345068724781056, 511), (14, 618970019642690137449562112, 2047)] (by kernel_rfl) ⟨by kernel_rfl, by kernel_rfl, by kernel_rfl⟩ (fun hT464 => ?_)
      have hEw37 : Ext w36 w36.drew := Ext.drew w36
      generalize w36.drew = w37 at hEw37 ⊢
      have hzw37 := hEw37.size
      refine anyM_run hT464 0 1 [(81, (.slice a_a n_a c_a))] (QPan.then put_panic_bodyPost) (by kernel_rfl) (by kernel_rfl) (show Ext w37 w37 from (Ext.refl _)) (fun _ => by kernel_rfl) ?_
      refine anyM_run hT464 1 3 [(82, (.int .i64 ((min n_a n_b : Nat) : Int)))] (QPan.then put_panic_bodyPost) (by kernel_rfl) (by kernel_rfl) (show Ext w37 w37 from (Ext.refl _)) (fun _ => by kernel_rfl) ?_
      obtain ⟨a25, hR7, hS7⟩ := (((((((((((((((((((((((((((((((h_a.ext hEw1)).ext hEw2)).ext hEw3)).chg hCw4 (fun k h1 h2 hs => by have hn := hO1.ne hs; omega))).chg hCw5 (fun k h1 h2 hs => by have hn := hOw4.ne hs; omega))).chg hCw6 (fun k h1 h2 hs => by have hn := hOw5.ne hs; omega))).ext hEw7)).ext hEw8)).chg hCw9 (fun k h1 h2 hs => by have h : k = _ := hs; omega))).ext hEw10)).ext hEw32)).ext hEw33)).ext hEw34)).ext hEw35)).ext hEw36)).ext hEw37).slice (P := Try.prog) (T := 23) (E := 5) (xl := none) (xh := (some (.int .i64 ((min n_a n_b : Nat) : Int)))) (mx := none) (x := 0) (r := min n_a n_b) (m := c_a) (by kernel_rfl) (by kernel_rfl) (.inl ⟨rfl, rfl⟩) (.inr ⟨_, rfl⟩) (.inl ⟨rfl, rfl⟩) (by simp) (by omega) (by omega) (by omega) (by omega)
      refine anyM_take hT464 2 7 (some 83) (.slice a25 (min n_a n_b - 0) (c_a - 0)) (QPan.then put_panic_bodyPost) (by kernel_rfl) (by kernel_rfl) (show Ext w37 w37 from (Ext.refl _)) (yld_val (s := Instr.sliceAt 23 (.slice a_a n_a c_a) none (some (.int .i64 ((min n_a n_b : Nat) : Int))) none) (by kernel_rfl) (fun w' hC => hR7 _)) ?_
      refine anyM_run hT464 3 15 [(84, (.slice a_b n_b c_b))] (QPan.then put_panic_bodyPost) (by kernel_rfl) (by kernel_rfl) (show Ext w37 w37 from (Ext.refl _)) (fun _ => by kernel_rfl) ?_
      refine anyM_run hT464 4 31 [(85, (.int .i64 ((min n_a n_b : Nat) : Int)))] (QPan.then put_panic_bodyPost) (by kernel_rfl) (by kernel_rfl) (show Ext w37 w37 from (Ext.refl _)) (fun _ => by kernel_rfl) ?_
      obtain ⟨a26, hR8, hS8⟩ := (((((((((((((((((((((((((((((((h_b.ext hEw1)).ext hEw2)).ext hEw3)).chg hCw4 (fun k h1 h2 hs => by have hn := hO1.ne hs; omega))).chg hCw5 (fun k h1 h2 hs => by have hn := hOw4.ne hs; omega))).chg hCw6 (fun k h1 h2 hs => by have hn := hOw5.ne hs; omega))).ext hEw7)).ext hEw8)).chg hCw9 (fun k h1 h2 hs => by have h : k = _ := hs; omega))).ext hEw10)).ext hEw32)).ext hEw33)).ext hEw34)).ext hEw35)).ext hEw36)).ext hEw37).slice (P := Try.prog) (T := 23) (E := 5) (xl := none) (xh := (some (.int .i64 ((min n_a n_b : Nat) : Int)))) (mx := none) (x := 0) (r := min n_a n_b) (m := c_b) (by kernel_rfl) (by kernel_rfl) (.inl ⟨rfl, rfl⟩) (.inr ⟨_, rfl⟩) (.inl ⟨rfl, rfl⟩) (by simp) (by omega) (by omega) (by omega) (by omega)
      refine anyM_take hT464 5 63 (some 86) (.slice a26 (min n_a n_b - 0) (c_b - 0)) (QPan.then put_panic_bodyPost) (by kernel_rfl) (by kernel_rfl) (show Ext w37 w37 from (Ext.refl _)) (yld_val (s := Instr.sliceAt 23 (.slice a_b n_b c_b) none (some (.int .i64 ((min n_a n_b : Nat) : Int))) none) (by kernel_rfl) (fun w' hC => hR8 _)) ?_
      refine anyM_one 6 127 (by kernel_rfl) (by kernel_rfl) (op_callAt (d := (some 87)) (by kernel_rfl) (c_Xor _ hS7 hS8 (by omega) (by omega)) ?_)
      rintro _ w38 ⟨a27, rfl, hFz21_0, hEw38⟩
      have hzw38 := hEw38.size
      refine ⟨.inr hEw38, ?_⟩
      refine anyM_run hT464 7 255 [(80, (.tuple #[(.slice a27 (min n_a n_b - 0) (min n_a n_b - 0)), (.int .i64 ((0 : Nat) : Int))]))] (QPan.then put_panic_bodyPost) (by kernel_rfl) (by kernel_rfl) (show Ext w37 w38 from hEw38) (fun _ => by kernel_rfl) ?_
      refine anyM_run hT464 8 511 [(88, (.slice a27 (min n_a n_b - 0) (min n_a n_b - 0)))] (QPan.then put_panic_bodyPost) (by kernel_rfl) (by kernel_rfl) (show Ext w37 w38 from hEw38) (fun _ => by kernel_rfl) ?_
      refine anyM_run hT464 9 1023 [(89, (.int .i64 ((0 : Nat) : Int)))] (QPan.then put_panic_bodyPost) (by kernel_rfl) (by kernel_rfl) (show Ext w37 w38 from hEw38) (fun _ => by kernel_rfl) ?_
      refine anyM_run hT464 10 2047 [(12, (.slice a27 (min n_a n_b - 0) (min n_a n_b - 0)))] (QPan.then put_panic_bodyPost) (by kernel_rfl) (by kernel_rfl) (show Ext w37 w38 from hEw38) (fun _ => by kernel_rfl) ?_
      refine anyM_run hT464 11 4095 [(13, (.int .i64 ((0 : Nat) : Int)))] (QPan.then put_panic_bodyPost) (by kernel_rfl) (by kernel_rfl) (show Ext w37 w38 from hEw38) (fun _ => by kernel_rfl) ?_
      refine anyM_done (by kernel_rfl) ?_
      refine then_code ?_
      refine wpC_seq ?_
      refine wpC_region ?_
      refine wpF_run 1 [(90, (.int .i64 ((0 : Nat) : Int)))] (by kernel_rfl) ?_
      refine wpF_step (op_eqv (d := (some 91)) (.bool ((((0 : Nat) : Int) == ((0 : Nat) : Int)))) (.bool true) (by kernel_rfl) (congrArg Value.bool (cmpEqT rfl)) ?_)
      refine wpF_run 2 [(93, (.int .i64 ((0 : Nat) : Int))), (92, (.bool true))] (by kernel_rfl) ?_
      refine wpF_step (op_eqv (d := (some 94)) (.bool ((((0 : Nat) : Int) == ((0 : Nat) : Int)))) (.bool true) (by kernel_rfl) (congrArg Value.bool (cmpEqT rfl)) ?_)
      refine wpF_run 6 [(100, (.int .i64 ((n_c : Nat) : Int))), (99, (.slice a_c n_c c_c)), (98, (.slice a27 (min n_a n_b - 0) (min n_a n_b - 0))), (97, (.slice a24 (sumLen ([(a.drop 0).take (min n_a n_b - 0), c])) (sumLen ([(a.drop 0).take (min n_a n_b - 0), c])))), (96, (.bool true)), (95, (.bool true))] (by kernel_rfl) ?_
      refine wpF_step (op_make (d := (some 101)) 23 5 1 1 n_c .i64 .i64 (.int .u8 ((0 : Nat) : Int)) (by kernel_rfl) (by kernel_rfl) (by kernel_rfl) (by omega) (by omega) ?_)
      rw [show (Value.cells (.int .u8 ((0 : Nat) : Int))) = #[(.int .u8 ((0 : Nat) : Int))] from rfl, Nat.mul_one, madeCells_one]
      intro w39 hBw39 hEw39
      have hzw39 := hEw39.size; have hlw39 := hBw39.lt
      have hSw39 : Bs w38.heap.size (w38.heap.size + 1) w39 (some ⟨w38.heap.size, 0, none⟩) n_c n_c (List.replicate n_c 0) := Bs.of_blk hBw39 (u8s_zero _) (by simp) (Nat.le_refl _) (by simp only [maxLen]; omega) (Nat.le_refl _) (Nat.lt_succ_self _)
      refine wpF_step (op_new (d := (some 102)) (s := Instr.buildSlice 84 2 #[(0, (.slice a27 (min n_a n_b - 0) (min n_a n_b - 0))), (1, (.slice (some ⟨w38.heap.size, 0, none⟩) n_c n_c))]) (.slice (some ⟨w39.heap.size, 0, none⟩) 2 2) [(.slice a27 (min n_a n_b - 0) (min n_a n_b - 0)), (.slice (some ⟨w38.heap.size, 0, none⟩) n_c n_c)] 23 (by kernel_rfl) (by kernel_rfl) ?_)
      intro w40 hBw40 hEw40
      have hzw40 := hEw40.size; have hlw40 := hBw40.lt
      have hSw40 : Ps 0 w40.heap.size w40 (some ⟨w39.heap.size, 0, none⟩) 2 2 [(.slice a27 (min n_a n_b - 0) (min n_a n_b - 0)), (.slice (some ⟨w38.heap.size, 0, none⟩) n_c n_c)] [xorl ((a.drop 0).take (min n_a n_b - 0)) ((b.drop 0).take (min n_a n_b - 0)), List.replicate n_c 0] := Ps.of_new hBw40 rfl (by decide) (Parts.cons (Part.at (((hFz21_0.ext hEw39)).ext hEw40)) (Parts.cons (Part.at (hSw39.ext hEw40)) Parts.nil))
      refine wpF_step (op_callAt (d := (some 103)) (by kernel_rfl) (c_Join _ hSw40 (by simp only [sumLen, List.map_cons, List.map_nil, List.sum_cons, List.sum_nil, List.length_replicate]; rw [xorl_length (by simp; omega)]; simp; omega)) ?_)
      rintro _ w41 ⟨a28, rfl, hFz22_0, hFz22_1, hFz22_2, hFz22_3, hEw41⟩
      have hzw41 := hEw41.size
      have hla28 := hFz22_1.lt; have hna28 := hFz22_3
      have hSa28 : Bs a28 (a28 + 1) w41 (some ⟨a28, 0, none⟩) (sumLen ([xorl ((a.drop 0).take (min n_a n_b - 0)) ((b.drop 0).take (min n_a n_b - 0)), List.replicate n_c 0])) (sumLen ([xorl ((a.drop 0).take (min n_a n_b - 0)) ((b.drop 0).take (min n_a n_b - 0)), List.replicate n_c 0])) (([xorl ((a.drop 0).take (min n_a n_b - 0)) ((b.drop 0).take (min n_a n_b - 0)), List.replicate n_c 0]).flatten) := Bs.of_blk hFz22_1 rfl hFz22_2 (Nat.le_refl _) (le_maxLen hna28) (Nat.le_refl _) (Nat.lt_succ_self _)
      refine wpF_step (op_callAt (d := (some 104)) (by kernel_rfl) (c_same1 0 0 _ (((((((((hFz20_0.ext hEw37)).ext hEw38)).ext hEw39)).ext hEw40)).ext hEw41) hSa28 (rfl) (join_xor (by simp; omega) hlc) (rfl)) ?_)
      rintro _ _ ⟨rfl, rfl⟩
      refine wpF_run 2 [(106, (.bool true)), (105, (.bool true))] (by kernel_rfl) ?_
      refine wpF_step (op_callAt (d := (some 107)) (by kernel_rfl) (c_lives1 _) ?_)
      rintro _ w42 ⟨rfl, hEw42⟩
      have hzw42 := hEw42.size
      refine wpF_run 2 [(6, (.bool true)), (108, (.bool true))] (by kernel_rfl) ?_
      refine wpF_end (by kernel_rfl) ?_
      refine then_code ?_
      refine wpC_ret ?_
      refine body_ret1 (by kernel_rfl) (show resVal Try.prog 109 _ _ (.tmp 6) (.bool true) by (show _ = _; kernel_rfl)) ?_
      exact ⟨rfl, (((((((((((((Ext.own (((Ext.ownS (Ext.ownS (Ext.ownS ((hEw1.trans hEw2).trans hEw3) hCw4 (fun k hs hk => by have hn := hO1.ne hs; omega)) hCw5 (fun k hs hk => by have hn := hOw4.ne hs; omega)) hCw6 (fun k hs hk => by have hn := hOw5.ne hs; omega)).trans hEw7).trans hEw8) hCw9 (by omega)).trans hEw10).trans hEw32).trans hEw33).trans hEw34).trans hEw35).trans hEw36).trans hEw37).trans hEw38).trans hEw39).trans hEw40).trans hEw41).trans hEw42)⟩
  · replace hc49 : ¬ (sumLen ([a, b, c]) > 0) := by have := of_d_f hc49; omega
    refine wpF_end (by kernel_rfl) ?_
    refine then_code ?_
    refine wpC_false (by kernel_rfl) ?_
    refine wpC_skip ?_
    refine then_code ?_
    refine wpC_seq ?_
    refine wpC_seq ?_
    refine wpC_region ?_
    refine wpF_run 1 [(55, (.slice a_a n_a c_a))] (by kernel_rfl) ?_
    refine wpF_step (op_v (d := (some 56)) (s := convert 23 9 (.slice a_a n_a c_a)) (v := (.string ⟨(a).toArray⟩)) (by kernel_rfl) (run_string (E := 5) (by kernel_rfl) (by kernel_rfl) (by kernel_rfl) (((((((((((((((h_a.ext hEw1)).ext hEw2)).ext hEw3)).chg hCw4 (fun k h1 h2 hs => by have hn := hO1.ne hs; omega))).chg hCw5 (fun k h1 h2 hs => by have hn := hOw4.ne hs; omega))).chg hCw6 (fun k h1 h2 hs => by have hn := hOw5.ne hs; omega))).ext hEw7)).ext hEw8)) ?_)
    refine wpF_run 1 [(57, (.string ⟨(([a]).flatten).toArray⟩))] (by kernel_rfl) ?_
    refine wpF_step (op_eqv (d := (some 58)) (.bool (!((⟨(a).toArray⟩ : ByteArray).toList == (⟨(([a]).flatten).toArray⟩ : ByteArray).toList))) (.bool false) (by kernel_rfl) (congrArg Value.bool (strNF (by simp))) ?_)
    refine wpF_end (by kernel_rfl) ?_
    refine then_code ?_
    refine wpC_false (by kernel_rfl) ?_
    refine wpC_skip ?_
    refine then_code ?_
    refine wpC_seq ?_
    refine wpC_region ?_
    refine wpF_run 4 [(62, (.int .i64 ((n_b : Nat) : Int))), (61, (.slice a_b n_b c_b)), (60, (.int .i64 ((n_a : Nat) : Int))), (59, (.slice a_a n_a c_a))] (by kernel_rfl) ?_
    refine wpF_step (op_eqv (d := (some 63)) (.int .i64 (if ((n_b : Nat) : Int) < ((n_a : Nat) : Int) then ((n_b : Nat) : Int) else ((n_a : Nat) : Int))) (.int .i64 ((min n_a n_b : Nat) : Int)) (by kernel_rfl) (congrArg _ (minN _ _)) ?_)
    refine wpF_run 1 [(9, (.int .i64 ((min n_a n_b : Nat) : Int)))] (by kernel_rfl) ?_
    refine wpF_end (by kernel_rfl) ?_
    refine then_code ?_
    refine wpC_seq ?_
    refine wpC_drawM (Ext w8.drew) 18 [(66, 1, 0), (67, 512, 0), (68, 110680464442257309696, 3), (69, 4, 0), (70, 442721857769029238784, 12), (71, 590295810358705651712, 16), (72, 2, 0), (73, 512, 0), (74, 7083549724304467820544, 192), (75, 4, 0), (76, 28334198897217871282176, 768), (77, 37778931862957161709568, 1056), (78, 76738455346631734722560, 2080), (65, 151115727451828646838272, 4096), (79, 18446744073709551616, 8192), (80, 18446744073709551616, 8192), (11, 302231454903657293676544, 32767), (12, 604462909807314587353088, 131071)] (by kernel_rfl) ⟨by kernel_rfl, by kernel_rfl, by kernel_rfl⟩ (fun hT546 => ?_)
    have hEw43 : Ext w8 w8.drew := Ext.drew w8
    generalize w8.drew = w43 at hEw43 ⊢
    have hzw43 := hEw43.size
    refine anyM_run hT546 0 1 [(65, (.slice a_a n_a c_a))] (QPan.then put_panic_bodyPost) (by kernel_rfl) (by kernel_rfl) (show Ext w43 w43 from (Ext.refl _)) (fun _ => by kernel_rfl) ?_
    refine anyM_run hT546 1 3 [(66, (.int .i64 ((min n_a n_b : Nat) : Int)))] (QPan.then put_panic_bodyPost) (by kernel_rfl) (by kernel_rfl) (show Ext w43 w43 from (Ext.refl _)) (fun _ => by kernel_rfl) ?_
    obtain ⟨a29, hR9, hS9⟩ := (((((((((((((((((h_a.ext hEw1)).ext hEw2)).ext hEw3)).chg hCw4 (fun k h1 h2 hs => by have hn := hO1.ne hs; omega))).chg hCw5 (fun k h1 h2 hs => by have hn := hOw4.ne hs; omega))).chg hCw6 (fun k h1 h2 hs => by have hn := hOw5.ne hs; omega))).ext hEw7)).ext hEw8)).ext hEw43).slice (P := Try.prog) (T := 23) (E := 5) (xl := none) (xh := (some (.int .i64 ((min n_a n_b : Nat) : Int)))) (mx := none) (x := 0) (r := min n_a n_b) (m := c_a) (by kernel_rfl) (by kernel_rfl) (.inl ⟨rfl, rfl⟩) (.inr ⟨_, rfl⟩) (.inl ⟨rfl, rfl⟩) (by simp) (by omega) (by omega) (by omega) (by omega)
    refine anyM_take hT546 2 7 (some 67) (.slice a29 (min n_a n_b - 0) (c_a - 0)) (QPan.then put_panic_bodyPost) (by kernel_rfl) (by kernel_rfl) (show Ext w43 w43 from (Ext.refl _)) (yld_val (s := Instr.sliceAt 23 (.slice a_a n_a c_a) none (some (.int .i64 ((min n_a n_b : Nat) : Int))) none) (by kernel_rfl) (fun w' hC => hR9 _)) ?_
    refine anyM_run hT546 3 15 [(68, (.slice a_c n_c c_c))] (QPan.then put_panic_bodyPost) (by kernel_rfl) (by kernel_rfl) (show Ext w43 w43 from (Ext.refl _)) (fun _ => by kernel_rfl) ?_
    refine anyM_run hT546 6 79 [(71, (.slice a_b n_b c_b))] (QPan.then put_panic_bodyPost) (by kernel_rfl) (by kernel_rfl) (show Ext w43 w43 from (Ext.refl _)) (fun _ => by kernel_rfl) ?_
    refine anyM_run hT546 7 207 [(72, (.int .i64 ((min n_a n_b : Nat) : Int)))] (QPan.then put_panic_bodyPost) (by kernel_rfl) (by kernel_rfl) (show Ext w43 w43 from (Ext.refl _)) (fun _ => by kernel_rfl) ?_
    obtain ⟨a30, hR10, hS10⟩ := (((((((((((((((((h_b.ext hEw1)).ext hEw2)).ext hEw3)).chg hCw4 (fun k h1 h2 hs => by have hn := hO1.ne hs; omega))).chg hCw5 (fun k h1 h2 hs => by have hn := hOw4.ne hs; omega))).chg hCw6 (fun k h1 h2 hs => by have hn := hOw5.ne hs; omega))).ext hEw7)).ext hEw8)).ext hEw43).slice (P := Try.prog) (T := 23) (E := 5) (xl := none) (xh := (some (.int .i64 ((min n_a n_b : Nat) : Int)))) (mx := none) (x := 0) (r := min n_a n_b) (m := c_b) (by kernel_rfl) (by kernel_rfl) (.inl ⟨rfl, rfl⟩) (.inr ⟨_, rfl⟩) (.inl ⟨rfl, rfl⟩) (by simp) (by omega) (by omega) (by omega) (by omega)
    refine anyM_take hT546 8 463 (some 73) (.slice a30 (min n_a n_b - 0) (c_b - 0)) (QPan.then put_panic_bodyPost) (by kernel_rfl) (by kernel_rfl) (show Ext w43 w43 from (Ext.refl _)) (yld_val (s := Instr.sliceAt 23 (.slice a_b n_b c_b) none (some (.int .i64 ((min n_a n_b : Nat) : Int))) none) (by kernel_rfl) (fun w' hC => hR10 _)) ?_
    refine anyM_run hT546 9 975 [(74, (.slice a_c n_c c_c))] (QPan.then put_panic_bodyPost) (by kernel_rfl) (by kernel_rfl) (show Ext w43 w43 from (Ext.refl _)) (fun _ => by kernel_rfl) ?_
    refine anyM_two 4 10 991 1999 (by kernel_rfl) (by kernel_rfl) (by kernel_rfl) ?_ ?_
    · refine op_new (d := (some 69)) (s := Instr.buildSlice 84 2 #[(0, (.slice a29 (min n_a n_b - 0) (c_a - 0))), (1, (.slice a_c n_c c_c))]) (.slice (some ⟨w43.heap.size, 0, none⟩) 2 2) [(.slice a29 (min n_a n_b - 0) (c_a - 0)), (.slice a_c n_c c_c)] 23 (by kernel_rfl) (by kernel_rfl) ?_
      intro w44 hBw44 hEw44
      have hzw44 := hEw44.size; have hlw44 := hBw44.lt
      have hSw44 : Ps 0 w44.heap.size w44 (some ⟨w43.heap.size, 0, none⟩) 2 2 [(.slice a29 (min n_a n_b - 0) (c_a - 0)), (.slice a_c n_c c_c)] [(a.drop 0).take (min n_a n_b - 0), c] := Ps.of_new hBw44 rfl (by decide) (Parts.cons (Part.at (hS9.ext hEw44)) (Parts.cons (Part.at (((((((((((((((((((h_c.ext hEw1)).ext hEw2)).ext hEw3)).chg hCw4 (fun k h1 h2 hs => by have hn := hO1.ne hs; omega))).chg hCw5 (fun k h1 h2 hs => by have hn := hOw4.ne hs; omega))).chg hCw6 (fun k h1 h2 hs => by have hn := hOw5.ne hs; omega))).ext hEw7)).ext hEw8)).ext hEw43)).ext hEw44)) Parts.nil))
      refine ⟨.inr hEw44, ?_⟩
      refine anyM_two 5 10 1023 2015 (by kernel_rfl) (by kernel_rfl) (by kernel_rfl) ?_ ?_
      · refine op_callAt (d := (some 70)) (by kernel_rfl) (c_Join _ hSw44 (by simp [sumLen] <;> omega)) ?_
        rintro _ w45 ⟨a31, rfl, hFz25_0, hFz25_1, hFz25_2, hFz25_3, hEw45⟩
        have hzw45 := hEw45.size
        have hla31 := hFz25_1.lt; have hna31 := hFz25_3
        have hSa31 : Bs a31 (a31 + 1) w45 (some ⟨a31, 0, none⟩) (sumLen ([(a.drop 0).take (min n_a n_b - 0), c])) (sumLen ([(a.drop 0).take (min n_a n_b - 0), c])) (([(a.drop 0).take (min n_a n_b - 0), c]).flatten) := Bs.of_blk hFz25_1 rfl hFz25_2 (Nat.le_refl _) (le_maxLen hna31) (Nat.le_refl _) (Nat.lt_succ_self _)
        refine ⟨.inr (hEw44.trans hEw45), ?_⟩
        refine anyM_one 10 2047 (by kernel_rfl) (by kernel_rfl) (op_new (d := (some 75)) (s := Instr.buildSlice 84 2 #[(0, (.slice a30 (min n_a n_b - 0) (c_b - 0))), (1, (.slice a_c n_c c_c))]) (.slice (some ⟨w45.heap.size, 0, none⟩) 2 2) [(.slice a30 (min n_a n_b - 0) (c_b - 0)), (.slice a_c n_c c_c)] 23 (by kernel_rfl) (by kernel_rfl) ?_)
        intro w46 hBw46 hEw46
        have hzw46 := hEw46.size; have hlw46 := hBw46.lt
        have hSw46 : Ps 0 w46.heap.size w46 (some ⟨w45.heap.size, 0, none⟩) 2 2 [(.slice a30 (min n_a n_b - 0) (c_b - 0)), (.slice a_c n_c c_c)] [(b.drop 0).take (min n_a n_b - 0), c] := Ps.of_new hBw46 rfl (by decide) (Parts.cons (Part.at (((((hS10.ext hEw44)).ext hEw45)).ext hEw46)) (Parts.cons (Part.at (((((((((((((((((((((((h_c.ext hEw1)).ext hEw2)).ext hEw3)).chg hCw4 (fun k h1 h2 hs => by have hn := hO1.ne hs; omega))).chg hCw5 (fun k h1 h2 hs => by have hn := hOw4.ne hs; omega))).chg hCw6 (fun k h1 h2 hs => by have hn := hOw5.ne hs; omega))).ext hEw7)).ext hEw8)).ext hEw43)).ext hEw44)).ext hEw45)).ext hEw46)) Parts.nil))
        refine ⟨.inr ((hEw44.trans hEw45).trans hEw46), ?_⟩
        refine anyM_one 11 4095 (by kernel_rfl) (by kernel_rfl) (op_callAt (d := (some 76)) (by kernel_rfl) (c_Join _ hSw46 (by simp [sumLen] <;> omega)) ?_)
        rintro _ w47 ⟨a32, rfl, hFz26_0, hFz26_1, hFz26_2, hFz26_3, hEw47⟩
        have hzw47 := hEw47.size
        have hla32 := hFz26_1.lt; have hna32 := hFz26_3
        have hSa32 : Bs a32 (a32 + 1) w47 (some ⟨a32, 0, none⟩) (sumLen ([(b.drop 0).take (min n_a n_b - 0), c])) (sumLen ([(b.drop 0).take (min n_a n_b - 0), c])) (([(b.drop 0).take (min n_a n_b - 0), c]).flatten) := Bs.of_blk hFz26_1 rfl hFz26_2 (Nat.le_refl _) (le_maxLen hna32) (Nat.le_refl _) (Nat.lt_succ_self _)
        refine ⟨.inr (((hEw44.trans hEw45).trans hEw46).trans hEw47), ?_⟩
        refine anyM_one 12 8191 (by kernel_rfl) (by kernel_rfl) (op_callAt (d := (some 77)) (by kernel_rfl) (c_Xor _ (((hSa31.ext hEw46)).ext hEw47) hSa32 (by simp [sumLen]; omega) (by omega)) ?_)
        rintro _ w48 ⟨a33, rfl, hFz27_0, hEw48⟩
        have hzw48 := hEw48.size
        refine ⟨.inr ((((hEw44.trans hEw45).trans hEw46).trans hEw47).trans hEw48), ?_⟩
        refine anyM_run hT546 13 16383 [(64, (.tuple #[(.slice a33 (sumLen ([(a.drop 0).take (min n_a n_b - 0), c])) (sumLen ([(a.drop 0).take (min n_a n_b - 0), c]))), (.int .i64 ((0 : Nat) : Int))]))] (QPan.then put_panic_bodyPost) (by kernel_rfl) (by kernel_rfl) (show Ext w43 w48 from ((((hEw44.trans hEw45).trans hEw46).trans hEw47).trans hEw48)) (fun _ => by kernel_rfl) ?_
        refine anyM_run hT546 14 32767 [(78, (.slice a33 (sumLen ([(a.drop 0).take (min n_a n_b - 0), c])) (sumLen ([(a.drop 0).take (min n_a n_b - 0), c]))))] (QPan.then put_panic_bodyPost) (by kernel_rfl) (by kernel_rfl) (show Ext w43 w48 from ((((hEw44.trans hEw45).trans hEw46).trans hEw47).trans hEw48)) (fun _ => by kernel_rfl) ?_
        refine anyM_run hT546 15 65535 [(79, (.int .i64 ((0 : Nat) : Int)))] (QPan.then put_panic_bodyPost) (by kernel_rfl) (by kernel_rfl) (show Ext w43 w48 from ((((hEw44.trans hEw45).trans hEw46).trans hEw47).trans hEw48)) (fun _ => by kernel_rfl) ?_
        refine anyM_run hT546 16 131071 [(10, (.slice a33 (sumLen ([(a.drop 0).take (min n_a n_b - 0), c])) (sumLen ([(a.drop 0).take (min n_a n_b - 0), c]))))] (QPan.then put_panic_bodyPost) (by kernel_rfl) (by kernel_rfl) (show Ext w43 w48 from ((((hEw44.trans hEw45).trans hEw46).trans hEw47).trans hEw48)) (fun _ => by kernel_rfl) ?_
        refine anyM_run hT546 17 262143 [(11, (.int .i64 ((0 : Nat) : Int)))] (QPan.then put_panic_bodyPost) (by kernel_rfl) (by kernel_rfl) (show Ext w43 w48 from ((((hEw44.trans hEw45).trans hEw46).trans hEw47).trans hEw48)) (fun _ => by kernel_rfl) ?_
        refine anyM_done (by kernel_rfl) ?_
        refine then_code ?_
        refine wpC_seq ?_
        refine wpC_drawM (Ext w48.drew) 12 [(82, 1, 0), (83, 512, 0), (84, 7253554917687775048237056, 3), (85, 2, 0), (86, 512, 0), (87, 58028439341502200385896448, 24), (88, 87042659012253300578844672, 36), (81, 154742504910672534362390528, 64), (89, 1208925819614629174706176, 128), (90, 1208925819614629174706176, 128), (13, 309485009821345068724781056, 511), (14, 618970019642690137449562112, 2047)] (by kernel_rfl) ⟨by kernel_rfl, by kernel_rfl, by kernel_rfl⟩ (fun hT596 => ?_)
        have hEw49 : Ext w48 w48.drew := Ext.drew w48
        generalize w48.drew = w49 at hEw49 ⊢
        have hzw49 := hEw49.size
        refine anyM_run hT596 0 1 [(81, (.slice a_a n_a c_a))] (QPan.then put_panic_bodyPost) (by kernel_rfl) (by kernel_rfl) (show Ext w49 w49 from (Ext.refl _)) (fun _ => by kernel_rfl) ?_
        refine anyM_run hT596 1 3 [(82, (.int .i64 ((min n_a n_b : Nat) : Int)))] (QPan.then put_panic_bodyPost) (by kernel_rfl) (by kernel_rfl) (show Ext w49 w49 from (Ext.refl _)) (fun _ => by kernel_rfl) ?_
        obtain ⟨a34, hR11, hS11⟩ := (((((((((((((((((((((((((((((h_a.ext hEw1)).ext hEw2)).ext hEw3)).chg hCw4 (fun k h1 h2 hs => by have hn := hO1.ne hs; omega))).chg hCw5 (fun k h1 h2 hs => by have hn := hOw4.ne hs; omega))).chg hCw6 (fun k h1 h2 hs => by have hn := hOw5.ne hs; omega))).ext hEw7)).ext hEw8)).ext hEw43)).ext hEw44)).ext hEw45)).ext hEw46)).ext hEw47)).ext hEw48)).ext hEw49).slice (P := Try.prog) (T := 23) (E := 5) (xl := none) (xh := (some (.int .i64 ((min n_a n_b : Nat) : Int)))) (mx := none) (x := 0) (r := min n_a n_b) (m := c_a) (by kernel_rfl) (by kernel_rfl) (.inl ⟨rfl, rfl⟩) (.inr ⟨_, rfl⟩) (.inl ⟨rfl, rfl⟩) (by simp) (by omega) (by omega) (by omega) (by omega)
        refine anyM_take hT596 2 7 (some 83) (.slice a34 (min n_a n_b - 0) (c_a - 0)) (QPan.then put_panic_bodyPost) (by kernel_rfl) (by kernel_rfl) (show Ext w49 w49 from (Ext.refl _)) (yld_val (s := Instr.sliceAt 23 (.slice a_a n_a c_a) none (some (.int .i64 ((min n_a n_b : Nat) : Int))) none) (by kernel_rfl) (fun w' hC => hR11 _)) ?_
        refine anyM_run hT596 3 15 [(84, (.slice a_b n_b c_b))] (QPan.then put_panic_bodyPost) (by kernel_rfl) (by kernel_rfl) (show Ext w49 w49 from (Ext.refl _)) (fun _ => by kernel_rfl) ?_
        refine anyM_run hT596 4 31 [(85, (.int .i64 ((min n_a n_b : Nat) : Int)))] (QPan.then put_panic_bodyPost) (by kernel_rfl) (by kernel_rfl) (show Ext w49 w49 from (Ext.refl _)) (fun _ => by kernel_rfl) ?_
        obtain ⟨a35, hR12, hS12⟩ := (((((((((((((((((((((((((((((h_b.ext hEw1)).ext hEw2)).ext hEw3)).chg hCw4 (fun k h1 h2 hs => by have hn := hO1.ne hs; omega))).chg hCw5 (fun k h1 h2 hs => by have hn := hOw4.ne hs; omega))).chg hCw6 (fun k h1 h2 hs => by have hn := hOw5.ne hs; omega))).ext hEw7)).ext hEw8)).ext hEw43)).ext hEw44)).ext hEw45)).ext hEw46)).ext hEw47)).ext hEw48)).ext hEw49).slice (P := Try.prog) (T := 23) (E := 5) (xl := none) (xh := (some (.int .i64 ((min n_a n_b : Nat) : Int)))) (mx := none) (x := 0) (r := min n_a n_b) (m := c_b) (by kernel_rfl) (by kernel_rfl) (.inl ⟨rfl, rfl⟩) (.inr ⟨_, rfl⟩) (.inl ⟨rfl, rfl⟩) (by simp) (by omega) (by omega) (by omega) (by omega)
        refine anyM_take hT596 5 63 (some 86) (.slice a35 (min n_a n_b - 0) (c_b - 0)) (QPan.then put_panic_bodyPost) (by kernel_rfl) (by kernel_rfl) (show Ext w49 w49 from (Ext.refl _)) (yld_val (s := Instr.sliceAt 23 (.slice a_b n_b c_b) none (some (.int .i64 ((min n_a n_b : Nat) : Int))) none) (by kernel_rfl) (fun w' hC => hR12 _)) ?_
        refine anyM_one 6 127 (by kernel_rfl) (by kernel_rfl) (op_callAt (d := (some 87)) (by kernel_rfl) (c_Xor _ hS11 hS12 (by omega) (by omega)) ?_)
        rintro _ w50 ⟨a36, rfl, hFz28_0, hEw50⟩
        have hzw50 := hEw50.size
        refine ⟨.inr hEw50, ?_⟩
        refine anyM_run hT596 7 255 [(80, (.tuple #[(.slice a36 (min n_a n_b - 0) (min n_a n_b - 0)), (.int .i64 ((0 : Nat) : Int))]))] (QPan.then put_panic_bodyPost) (by kernel_rfl) (by kernel_rfl) (show Ext w49 w50 from hEw50) (fun _ => by kernel_rfl) ?_
        refine anyM_run hT596 8 511 [(88, (.slice a36 (min n_a n_b - 0) (min n_a n_b - 0)))] (QPan.then put_panic_bodyPost) (by kernel_rfl) (by kernel_rfl) (show Ext w49 w50 from hEw50) (fun _ => by kernel_rfl) ?_
        refine anyM_run hT596 9 1023 [(89, (.int .i64 ((0 : Nat) : Int)))] (QPan.then put_panic_bodyPost) (by kernel_rfl) (by kernel_rfl) (show Ext w49 w50 from hEw50) (fun _ => by kernel_rfl) ?_
        refine anyM_run hT596 10 2047 [(12, (.slice a36 (min n_a n_b - 0) (min n_a n_b - 0)))] (QPan.then put_panic_bodyPost) (by kernel_rfl) (by kernel_rfl) (show Ext w49 w50 from hEw50) (fun _ => by kernel_rfl) ?_
        refine anyM_run hT596 11 4095 [(13, (.int .i64 ((0 : Nat) : Int)))] (QPan.then put_panic_bodyPost) (by kernel_rfl) (by kernel_rfl) (show Ext w49 w50 from hEw50) (fun _ => by kernel_rfl) ?_
        refine anyM_done (by kernel_rfl) ?_
        refine then_code ?_
        refine wpC_seq ?_
        refine wpC_region ?_
        refine wpF_run 1 [(90, (.int .i64 ((0 : Nat) : Int)))] (by kernel_rfl) ?_
        refine wpF_step (op_eqv (d := (some 91)) (.bool ((((0 : Nat) : Int) == ((0 : Nat) : Int)))) (.bool true) (by kernel_rfl) (congrArg Value.bool (cmpEqT rfl)) ?_)
        refine wpF_run 2 [(93, (.int .i64 ((0 : Nat) : Int))), (92, (.bool true))] (by kernel_rfl) ?_
        refine wpF_step (op_eqv (d := (some 94)) (.bool ((((0 : Nat) : Int) == ((0 : Nat) : Int)))) (.bool true) (by kernel_rfl) (congrArg Value.bool (cmpEqT rfl)) ?_)
        refine wpF_run 6 [(100, (.int .i64 ((n_c : Nat) : Int))), (99, (.slice a_c n_c c_c)), (98, (.slice a36 (min n_a n_b - 0) (min n_a n_b - 0))), (97, (.slice a33 (sumLen ([(a.drop 0).take (min n_a n_b - 0), c])) (sumLen ([(a.drop 0).take (min n_a n_b - 0), c])))), (96, (.bool true)), (95, (.bool true))] (by kernel_rfl) ?_
        refine wpF_step (op_make (d := (some 101)) 23 5 1 1 n_c .i64 .i64 (.int .u8 ((0 : Nat) : Int)) (by kernel_rfl) (by kernel_rfl) (by kernel_rfl) (by omega) (by omega) ?_)
        rw [show (Value.cells (.int .u8 ((0 : Nat) : Int))) = #[(.int .u8 ((0 : Nat) : Int))] from rfl, Nat.mul_one, madeCells_one]
        intro w51 hBw51 hEw51
        have hzw51 := hEw51.size; have hlw51 := hBw51.lt
        have hSw51 : Bs w50.heap.size (w50.heap.size + 1) w51 (some ⟨w50.heap.size, 0, none⟩) n_c n_c (List.replicate n_c 0) := Bs.of_blk hBw51 (u8s_zero _) (by simp) (Nat.le_refl _) (by simp only [maxLen]; omega) (Nat.le_refl _) (Nat.lt_succ_self _)
        refine wpF_step (op_new (d := (some 102)) (s := Instr.buildSlice 84 2 #[(0, (.slice a36 (min n_a n_b - 0) (min n_a n_b - 0))), (1, (.slice (some ⟨w50.heap.size, 0, none⟩) n_c n_c))]) (.slice (some ⟨w51.heap.size, 0, none⟩) 2 2) [(.slice a36 (min n_a n_b - 0) (min n_a n_b - 0)), (.slice (some ⟨w50.heap.size, 0, none⟩) n_c n_c)] 23 (by kernel_rfl) (by kernel_rfl) ?_)
        intro w52 hBw52 hEw52
        have hzw52 := hEw52.size; have hlw52 := hBw52.lt
        have hSw52 : Ps 0 w52.heap.size w52 (some ⟨w51.heap.size, 0, none⟩) 2 2 [(.slice a36 (min n_a n_b - 0) (min n_a n_b - 0)), (.slice (some ⟨w50.heap.size, 0, none⟩) n_c n_c)] [xorl ((a.drop 0).take (min n_a n_b - 0)) ((b.drop 0).take (min n_a n_b - 0)), List.replicate n_c 0] := Ps.of_new hBw52 rfl (by decide) (Parts.cons (Part.at (((hFz28_0.ext hEw51)).ext hEw52)) (Parts.cons (Part.at (hSw51.ext hEw52)) Parts.nil))
        refine wpF_step (op_callAt (d := (some 103)) (by kernel_rfl) (c_Join _ hSw52 (by simp only [sumLen, List.map_cons, List.map_nil, List.sum_cons, List.sum_nil, List.length_replicate]; rw [xorl_length (by simp; omega)]; simp; omega)) ?_)
        rintro _ w53 ⟨a37, rfl, hFz29_0, hFz29_1, hFz29_2, hFz29_3, hEw53⟩
        have hzw53 := hEw53.size
        have hla37 := hFz29_1.lt; have hna37 := hFz29_3
        have hSa37 : Bs a37 (a37 + 1) w53 (some ⟨a37, 0, none⟩) (sumLen ([xorl ((a.drop 0).take (min n_a n_b - 0)) ((b.drop 0).take (min n_a n_b - 0)), List.replicate n_c 0])) (sumLen ([xorl ((a.drop 0).take (min n_a n_b - 0)) ((b.drop 0).take (min n_a n_b - 0)), List.replicate n_c 0])) (([xorl ((a.drop 0).take (min n_a n_b - 0)) ((b.drop 0).take (min n_a n_b - 0)), List.replicate n_c 0]).flatten) := Bs.of_blk hFz29_1 rfl hFz29_2 (Nat.le_refl _) (le_maxLen hna37) (Nat.le_refl _) (Nat.lt_succ_self _)
        refine wpF_step (op_callAt (d := (some 104)) (by kernel_rfl) (c_same1 0 0 _ (((((((((hFz27_0.ext hEw49)).ext hEw50)).ext hEw51)).ext hEw52)).ext hEw53) hSa37 (rfl) (join_xor (by simp; omega) hlc) (rfl)) ?_)
        rintro _ _ ⟨rfl, rfl⟩
        refine wpF_run 2 [(106, (.bool true)), (105, (.bool true))] (by kernel_rfl) ?_
        refine wpF_step (op_callAt (d := (some 107)) (by kernel_rfl) (c_lives1 _) ?_)
        rintro _ w54 ⟨rfl, hEw54⟩
        have hzw54 := hEw54.size
        refine wpF_run 2 [(6, (.bool true)), (108, (.bool true))] (by kernel_rfl) ?_
        refine wpF_end (by kernel_rfl) ?_
        refine then_code ?_
        refine wpC_ret ?_
        refine body_ret1 (by kernel_rfl) (show resVal Try.prog 109 _ _ (.tmp 6) (.bool true) by (show _ = _; kernel_rfl)) ?_
        exact ⟨rfl, (((((((((((((((Ext.ownS (Ext.ownS (Ext.ownS ((hEw1.trans hEw2).trans hEw3) hCw4 (fun k hs hk => by have hn := hO1.ne hs; omega)) hCw5 (fun k hs hk => by have hn := hOw4.ne hs; omega)) hCw6 (fun k hs hk => by have hn := hOw5.ne hs; omega)).trans hEw7).trans hEw8).trans hEw43).trans hEw44).trans hEw45).trans hEw46).trans hEw47).trans hEw48).trans hEw49).trans hEw50).trans hEw51).trans hEw52).trans hEw53).trans hEw54)⟩
      · refine op_new (d := (some 75)) (s := Instr.buildSlice 84 2 #[(0, (.slice a30 (min n_a n_b - 0) (c_b - 0))), (1, (.slice a_c n_c c_c))]) (.slice (some ⟨w44.heap.size, 0, none⟩) 2 2) [(.slice a30 (min n_a n_b - 0) (c_b - 0)), (.slice a_c n_c c_c)] 23 (by kernel_rfl) (by kernel_rfl) ?_
        intro w55 hBw55 hEw55
        have hzw55 := hEw55.size; have hlw55 := hBw55.lt
        have hSw55 : Ps 0 w55.heap.size w55 (some ⟨w44.heap.size, 0, none⟩) 2 2 [(.slice a30 (min n_a n_b - 0) (c_b - 0)), (.slice a_c n_c c_c)] [(b.drop 0).take (min n_a n_b - 0), c] := Ps.of_new hBw55 rfl (by decide) (Parts.cons (Part.at (((hS10.ext hEw44)).ext hEw55)) (Parts.cons (Part.at (((((((((((((((((((((h_c.ext hEw1)).ext hEw2)).ext hEw3)).chg hCw4 (fun k h1 h2 hs => by have hn := hO1.ne hs; omega))).chg hCw5 (fun k h1 h2 hs => by have hn := hOw4.ne hs; omega))).chg hCw6 (fun k h1 h2 hs => by have hn := hOw5.ne hs; omega))).ext hEw7)).ext hEw8)).ext hEw43)).ext hEw44)).ext hEw55)) Parts.nil))
        refine ⟨.inr (hEw44.trans hEw55), ?_⟩
        refine anyM_one 5 2047 (by kernel_rfl) (by kernel_rfl) (op_callAt (d := (some 70)) (by kernel_rfl) (c_Join _ (hSw44.ext hEw55) (by simp [sumLen] <;> omega)) ?_)
        rintro _ w56 ⟨a38, rfl, hFz32_0, hFz32_1, hFz32_2, hFz32_3, hEw56⟩
        have hzw56 := hEw56.size
        have hla38 := hFz32_1.lt; have hna38 := hFz32_3
        have hSa38 : Bs a38 (a38 + 1) w56 (some ⟨a38, 0, none⟩) (sumLen ([(a.drop 0).take (min n_a n_b - 0), c])) (sumLen ([(a.drop 0).take (min n_a n_b - 0), c])) (([(a.drop 0).take (min n_a n_b - 0), c]).flatten) := Bs.of_blk hFz32_1 rfl hFz32_2 (Nat.le_refl _) (le_maxLen hna38) (Nat.le_refl _) (Nat.lt_succ_self _)
        refine ⟨.inr ((hEw44.trans hEw55).trans hEw56), ?_⟩
        refine anyM_one 11 4095 (by kernel_rfl) (by kernel_rfl) (op_callAt (d := (some 76)) (by kernel_rfl) (c_Join _ (hSw55.ext hEw56) (by simp [sumLen] <;> omega)) ?_)
        rintro _ w57 ⟨a39, rfl, hFz33_0, hFz33_1, hFz33_2, hFz33_3, hEw57⟩
        have hzw57 := hEw57.size
        have hla39 := hFz33_1.lt; have hna39 := hFz33_3
        have hSa39 : Bs a39 (a39 + 1) w57 (some ⟨a39, 0, none⟩) (sumLen ([(b.drop 0).take (min n_a n_b - 0), c])) (sumLen ([(b.drop 0).take (min n_a n_b - 0), c])) (([(b.drop 0).take (min n_a n_b - 0), c]).flatten) := Bs.of_blk hFz33_1 rfl hFz33_2 (Nat.le_refl _) (le_maxLen hna39) (Nat.le_refl _) (Nat.lt_succ_self _)
        refine ⟨.inr (((hEw44.trans hEw55).trans hEw56).trans hEw57), ?_⟩
        refine anyM_one 12 8191 (by kernel_rfl) (by kernel_rfl) (op_callAt (d := (some 77)) (by kernel_rfl) (c_Xor _ (hSa38.ext hEw57) hSa39 (by simp [sumLen]; omega) (by omega)) ?_)
        rintro _ w58 ⟨a40, rfl, hFz34_0, hEw58⟩
        have hzw58 := hEw58.size
        refine ⟨.inr ((((hEw44.trans hEw55).trans hEw56).trans hEw57).trans hEw58), ?_⟩
        refine anyM_run hT546 13 16383 [(64, (.tuple #[(.slice a40 (sumLen ([(a.drop 0).take (min n_a n_b - 0), c])) (sumLen ([(a.drop 0).take (min n_a n_b - 0), c]))), (.int .i64 ((0 : Nat) : Int))]))] (QPan.then put_panic_bodyPost) (by kernel_rfl) (by kernel_rfl) (show Ext w43 w58 from ((((hEw44.trans hEw55).trans hEw56).trans hEw57).trans hEw58)) (fun _ => by kernel_rfl) ?_
        refine anyM_run hT546 14 32767 [(78, (.slice a40 (sumLen ([(a.drop 0).take (min n_a n_b - 0), c])) (sumLen ([(a.drop 0).take (min n_a n_b - 0), c]))))] (QPan.then put_panic_bodyPost) (by kernel_rfl) (by kernel_rfl) (show Ext w43 w58 from ((((hEw44.trans hEw55).trans hEw56).trans hEw57).trans hEw58)) (fun _ => by kernel_rfl) ?_
        refine anyM_run hT546 15 65535 [(79, (.int .i64 ((0 : Nat) : Int)))] (QPan.then put_panic_bodyPost) (by kernel_rfl) (by kernel_rfl) (show Ext w43 w58 from ((((hEw44.trans hEw55).trans hEw56).trans hEw57).trans hEw58)) (fun _ => by kernel_rfl) ?_
        refine anyM_run hT546 16 131071 [(10, (.slice a40 (sumLen ([(a.drop 0).take (min n_a n_b - 0), c])) (sumLen ([(a.drop 0).take (min n_a n_b - 0), c]))))] (QPan.then put_panic_bodyPost) (by kernel_rfl) (by kernel_rfl) (show Ext w43 w58 from ((((hEw44.trans hEw55).trans hEw56).trans hEw57).trans hEw58)) (fun _ => by kernel_rfl) ?_
        refine anyM_run hT546 17 262143 [(11, (.int .i64 ((0 : Nat) : Int)))] (QPan.then put_panic_bodyPost) (by kernel_rfl) (by kernel_rfl) (show Ext w43 w58 from ((((hEw44.trans hEw55).trans hEw56).trans hEw57).trans hEw58)) (fun _ => by kernel_rfl) ?_
        refine anyM_done (by kernel_rfl) ?_
        refine then_code ?_
        refine wpC_seq ?_
        refine wpC_drawM (Ext w58.drew) 12 [(82, 1, 0), (83, 512, 0), (84, 7253554917687775048237056, 3), (85, 2, 0), (86, 512, 0), (87, 58028439341502200385896448, 24), (88, 87042659012253300578844672, 36), (81, 154742504910672534362390528, 64), (89, 1208925819614629174706176, 128), (90, 1208925819614629174706176, 128), (13, 309485009821345068724781056, 511), (14, 618970019642690137449562112, 2047)] (by kernel_rfl) ⟨by kernel_rfl, by kernel_rfl, by kernel_rfl⟩ (fun hT681 => ?_)
        have hEw59 : Ext w58 w58.drew := Ext.drew w58
        generalize w58.drew = w59 at hEw59 ⊢
        have hzw59 := hEw59.size
        refine anyM_run hT681 0 1 [(81, (.slice a_a n_a c_a))] (QPan.then put_panic_bodyPost) (by kernel_rfl) (by kernel_rfl) (show Ext w59 w59 from (Ext.refl _)) (fun _ => by kernel_rfl) ?_
        refine anyM_run hT681 1 3 [(82, (.int .i64 ((min n_a n_b : Nat) : Int)))] (QPan.then put_panic_bodyPost) (by kernel_rfl) (by kernel_rfl) (show Ext w59 w59 from (Ext.refl _)) (fun _ => by kernel_rfl) ?_
        obtain ⟨a41, hR13, hS13⟩ := (((((((((((((((((((((((((((((h_a.ext hEw1)).ext hEw2)).ext hEw3)).chg hCw4 (fun k h1 h2 hs => by have hn := hO1.ne hs; omega))).chg hCw5 (fun k h1 h2 hs => by have hn := hOw4.ne hs; omega))).chg hCw6 (fun k h1 h2 hs => by have hn := hOw5.ne hs; omega))).ext hEw7)).ext hEw8)).ext hEw43)).ext hEw44)).ext hEw55)).ext hEw56)).ext hEw57)).ext hEw58)).ext hEw59).slice (P := Try.prog) (T := 23) (E := 5) (xl := none) (xh := (some (.int .i64 ((min n_a n_b : Nat) : Int)))) (mx := none) (x := 0) (r := min n_a n_b) (m := c_a) (by kernel_rfl) (by kernel_rfl) (.inl ⟨rfl, rfl⟩) (.inr ⟨_, rfl⟩) (.inl ⟨rfl, rfl⟩) (by simp) (by omega) (by omega) (by omega) (by omega)
        refine anyM_take hT681 2 7 (some 83) (.slice a41 (min n_a n_b - 0) (c_a - 0)) (QPan.then put_panic_bodyPost) (by kernel_rfl) (by kernel_rfl) (show Ext w59 w59 from (Ext.refl _)) (yld_val (s := Instr.sliceAt 23 (.slice a_a n_a c_a) none (some (.int .i64 ((min n_a n_b : Nat) : Int))) none) (by kernel_rfl) (fun w' hC => hR13 _)) ?_
        refine anyM_run hT681 3 15 [(84, (.slice a_b n_b c_b))] (QPan.then put_panic_bodyPost) (by kernel_rfl) (by kernel_rfl) (show Ext w59 w59 from (Ext.refl _)) (fun _ => by kernel_rfl) ?_
        refine anyM_run hT681 4 31 [(85, (.int .i64 ((min n_a n_b : Nat) : Int)))] (QPan.then put_panic_bodyPost) (by kernel_rfl) (by kernel_rfl) (show Ext w59 w59 from (Ext.refl _)) (fun _ => by kernel_rfl) ?_
        obtain ⟨a42, hR14, hS14⟩ := (((((((((((((((((((((((((((((h_b.ext hEw1)).ext hEw2)).ext hEw3)).chg hCw4 (fun k h1 h2 hs => by have hn := hO1.ne hs; omega))).chg hCw5 (fun k h1 h2 hs => by have hn := hOw4.ne hs; omega))).chg hCw6 (fun k h1 h2 hs => by have hn := hOw5.ne hs; omega))).ext hEw7)).ext hEw8)).ext hEw43)).ext hEw44)).ext hEw55)).ext hEw56)).ext hEw57)).ext hEw58)).ext hEw59).slice (P := Try.prog) (T := 23) (E := 5) (xl := none) (xh := (some (.int .i64 ((min n_a n_b : Nat) : Int)))) (mx := none) (x := 0) (r := min n_a n_b) (m := c_b) (by kernel_rfl) (by kernel_rfl) (.inl ⟨rfl, rfl⟩) (.inr ⟨_, rfl⟩) (.inl ⟨rfl, rfl⟩) (by simp) (by omega) (by omega) (by omega) (by omega)
        refine anyM_take hT681 5 63 (some 86) (.slice a42 (min n_a n_b - 0) (c_b - 0)) (QPan.then put_panic_bodyPost) (by kernel_rfl) (by kernel_rfl) (show Ext w59 w59 from (Ext.refl _)) (yld_val (s := Instr.sliceAt 23 (.slice a_b n_b c_b) none (some (.int .i64 ((min n_a n_b : Nat) : Int))) none) (by kernel_rfl) (fun w' hC => hR14 _)) ?_
        refine anyM_one 6 127 (by kernel_rfl) (by kernel_rfl) (op_callAt (d := (some 87)) (by kernel_rfl) (c_Xor _ hS13 hS14 (by omega) (by omega)) ?_)
        rintro _ w60 ⟨a43, rfl, hFz35_0, hEw60⟩
        have hzw60 := hEw60.size
        refine ⟨.inr hEw60, ?_⟩
        refine anyM_run hT681 7 255 [(80, (.tuple #[(.slice a43 (min n_a n_b - 0) (min n_a n_b - 0)), (.int .i64 ((0 : Nat) : Int))]))] (QPan.then put_panic_bodyPost) (by kernel_rfl) (by kernel_rfl) (show Ext w59 w60 from hEw60) (fun _ => by kernel_rfl) ?_
        refine anyM_run hT681 8 511 [(88, (.slice a43 (min n_a n_b - 0) (min n_a n_b - 0)))] (QPan.then put_panic_bodyPost) (by kernel_rfl) (by kernel_rfl) (show Ext w59 w60 from hEw60) (fun _ => by kernel_rfl) ?_
        refine anyM_run hT681 9 1023 [(89, (.int .i64 ((0 : Nat) : Int)))] (QPan.then put_panic_bodyPost) (by kernel_rfl) (by kernel_rfl) (show Ext w59 w60 from hEw60) (fun _ => by kernel_rfl) ?_
        refine anyM_run hT681 10 2047 [(12, (.slice a43 (min n_a n_b - 0) (min n_a n_b - 0)))] (QPan.then put_panic_bodyPost) (by kernel_rfl) (by kernel_rfl) (show Ext w59 w60 from hEw60) (fun _ => by kernel_rfl) ?_
        refine anyM_run hT681 11 4095 [(13, (.int .i64 ((0 : Nat) : Int)))] (QPan.then put_panic_bodyPost) (by kernel_rfl) (by kernel_rfl) (show Ext w59 w60 from hEw60) (fun _ => by kernel_rfl) ?_
        refine anyM_done (by kernel_rfl) ?_
        refine then_code ?_
        refine wpC_seq ?_
        refine wpC_region ?_
        refine wpF_run 1 [(90, (.int .i64 ((0 : Nat) : Int)))] (by kernel_rfl) ?_
        refine wpF_step (op_eqv (d := (some 91)) (.bool ((((0 : Nat) : Int) == ((0 : Nat) : Int)))) (.bool true) (by kernel_rfl) (congrArg Value.bool (cmpEqT rfl)) ?_)
        refine wpF_run 2 [(93, (.int .i64 ((0 : Nat) : Int))), (92, (.bool true))] (by kernel_rfl) ?_
        refine wpF_step (op_eqv (d := (some 94)) (.bool ((((0 : Nat) : Int) == ((0 : Nat) : Int)))) (.bool true) (by kernel_rfl) (congrArg Value.bool (cmpEqT rfl)) ?_)
        refine wpF_run 6 [(100, (.int .i64 ((n_c : Nat) : Int))), (99, (.slice a_c n_c c_c)), (98, (.slice a43 (min n_a n_b - 0) (min n_a n_b - 0))), (97, (.slice a40 (sumLen ([(a.drop 0).take (min n_a n_b - 0), c])) (sumLen ([(a.drop 0).take (min n_a n_b - 0), c])))), (96, (.bool true)), (95, (.bool true))] (by kernel_rfl) ?_
        refine wpF_step (op_make (d := (some 101)) 23 5 1 1 n_c .i64 .i64 (.int .u8 ((0 : Nat) : Int)) (by kernel_rfl) (by kernel_rfl) (by kernel_rfl) (by omega) (by omega) ?_)
        rw [show (Value.cells (.int .u8 ((0 : Nat) : Int))) = #[(.int .u8 ((0 : Nat) : Int))] from rfl, Nat.mul_one, madeCells_one]
        intro w61 hBw61 hEw61
        have hzw61 := hEw61.size; have hlw61 := hBw61.lt
        have hSw61 : Bs w60.heap.size (w60.heap.size + 1) w61 (some ⟨w60.heap.size, 0, none⟩) n_c n_c (List.replicate n_c 0) := Bs.of_blk hBw61 (u8s_zero _) (by simp) (Nat.le_refl _) (by simp only [maxLen]; omega) (Nat.le_refl _) (Nat.lt_succ_self _)
        refine wpF_step (op_new (d := (some 102)) (s := Instr.buildSlice 84 2 #[(0, (.slice a43 (min n_a n_b - 0) (min n_a n_b - 0))), (1, (.slice (some ⟨w60.heap.size, 0, none⟩) n_c n_c))]) (.slice (some ⟨w61.heap.size, 0, none⟩) 2 2) [(.slice a43 (min n_a n_b - 0) (min n_a n_b - 0)), (.slice (some ⟨w60.heap.size, 0, none⟩) n_c n_c)] 23 (by kernel_rfl) (by kernel_rfl) ?_)
        intro w62 hBw62 hEw62
        have hzw62 := hEw62.size; have hlw62 := hBw62.lt
        have hSw62 : Ps 0 w62.heap.size w62 (some ⟨w61.heap.size, 0, none⟩) 2 2 [(.slice a43 (min n_a n_b - 0) (min n_a n_b - 0)), (.slice (some ⟨w60.heap.size, 0, none⟩) n_c n_c)] [xorl ((a.drop 0).take (min n_a n_b - 0)) ((b.drop 0).take (min n_a n_b - 0)), List.replicate n_c 0] := Ps.of_new hBw62 rfl (by decide) (Parts.cons (Part.at (((hFz35_0.ext hEw61)).ext hEw62)) (Parts.cons (Part.at (hSw61.ext hEw62)) Parts.nil))
        refine wpF_step (op_callAt (d := (some 103)) (by kernel_rfl) (c_Join _ hSw62 (by simp only [sumLen, List.map_cons, List.map_nil, List.sum_cons, List.sum_nil, List.length_replicate]; rw [xorl_length (by simp; omega)]; simp; omega)) ?_)
        rintro _ w63 ⟨a44, rfl, hFz36_0, hFz36_1, hFz36_2, hFz36_3, hEw63⟩
        have hzw63 := hEw63.size
        have hla44 := hFz36_1.lt; have hna44 := hFz36_3
        have hSa44 : Bs a44 (a44 + 1) w63 (some ⟨a44, 0, none⟩) (sumLen ([xorl ((a.drop 0).take (min n_a n_b - 0)) ((b.drop 0).take (min n_a n_b - 0)), List.replicate n_c 0])) (sumLen ([xorl ((a.drop 0).take (min n_a n_b - 0)) ((b.drop 0).take (min n_a n_b - 0)), List.replicate n_c 0])) (([xorl ((a.drop 0).take (min n_a n_b - 0)) ((b.drop 0).take (min n_a n_b - 0)), List.replicate n_c 0]).flatten) := Bs.of_blk hFz36_1 rfl hFz36_2 (Nat.le_refl _) (le_maxLen hna44) (Nat.le_refl _) (Nat.lt_succ_self _)
        refine wpF_step (op_callAt (d := (some 104)) (by kernel_rfl) (c_same1 0 0 _ (((((((((hFz34_0.ext hEw59)).ext hEw60)).ext hEw61)).ext hEw62)).ext hEw63) hSa44 (rfl) (join_xor (by simp; omega) hlc) (rfl)) ?_)
        rintro _ _ ⟨rfl, rfl⟩
        refine wpF_run 2 [(106, (.bool true)), (105, (.bool true))] (by kernel_rfl) ?_
        refine wpF_step (op_callAt (d := (some 107)) (by kernel_rfl) (c_lives1 _) ?_)
        rintro _ w64 ⟨rfl, hEw64⟩
        have hzw64 := hEw64.size
        refine wpF_run 2 [(6, (.bool true)), (108, (.bool true))] (by kernel_rfl) ?_
        refine wpF_end (by kernel_rfl) ?_
        refine then_code ?_
        refine wpC_ret ?_
        refine body_ret1 (by kernel_rfl) (show resVal Try.prog 109 _ _ (.tmp 6) (.bool true) by (show _ = _; kernel_rfl)) ?_
        exact ⟨rfl, (((((((((((((((Ext.ownS (Ext.ownS (Ext.ownS ((hEw1.trans hEw2).trans hEw3) hCw4 (fun k hs hk => by have hn := hO1.ne hs; omega)) hCw5 (fun k hs hk => by have hn := hOw4.ne hs; omega)) hCw6 (fun k hs hk => by have hn := hOw5.ne hs; omega)).trans hEw7).trans hEw8).trans hEw43).trans hEw44).trans hEw55).trans hEw56).trans hEw57).trans hEw58).trans hEw59).trans hEw60).trans hEw61).trans hEw62).trans hEw63).trans hEw64)⟩
    · refine op_new (d := (some 75)) (s := Instr.buildSlice 84 2 #[(0, (.slice a30 (min n_a n_b - 0) (c_b - 0))), (1, (.slice a_c n_c c_c))]) (.slice (some ⟨w43.heap.size, 0, none⟩) 2 2) [(.slice a30 (min n_a n_b - 0) (c_b - 0)), (.slice a_c n_c c_c)] 23 (by kernel_rfl) (by kernel_rfl) ?_
      intro w65 hBw65 hEw65
      have hzw65 := hEw65.size; have hlw65 := hBw65.lt
      have hSw65 : Ps 0 w65.heap.size w65 (some ⟨w43.heap.size, 0, none⟩) 2 2 [(.slice a30 (min n_a n_b - 0) (c_b - 0)), (.slice a_c n_c c_c)] [(b.drop 0).take (min n_a n_b - 0), c] := Ps.of_new hBw65 rfl (by decide) (Parts.cons (Part.at (hS10.ext hEw65)) (Parts.cons (Part.at (((((((((((((((((((h_c.ext hEw1)).ext hEw2)).ext hEw3)).chg hCw4 (fun k h1 h2 hs => by have hn := hO1.ne hs; omega))).chg hCw5 (fun k h1 h2 hs => by have hn := hOw4.ne hs; omega))).chg hCw6 (fun k h1 h2 hs => by have hn := hOw5.ne hs; omega))).ext hEw7)).ext hEw8)).ext hEw43)).ext hEw65)) Parts.nil))
      refine ⟨.inr hEw65, ?_⟩
      refine anyM_one 4 2015 (by kernel_rfl) (by kernel_rfl) (op_new (d := (some 69)) (s := Instr.buildSlice 84 2 #[(0, (.slice a29 (min n_a n_b - 0) (c_a - 0))), (1, (.slice a_c n_c c_c))]) (.slice (some ⟨w65.heap.size, 0, none⟩) 2 2) [(.slice a29 (min n_a n_b - 0) (c_a - 0)), (.slice a_c n_c c_c)] 23 (by kernel_rfl) (by kernel_rfl) ?_)
      intro w66 hBw66 hEw66
      have hzw66 := hEw66.size; have hlw66 := hBw66.lt
      have hSw66 : Ps 0 w66.heap.size w66 (some ⟨w65.heap.size, 0, none⟩) 2 2 [(.slice a29 (min n_a n_b - 0) (c_a - 0)), (.slice a_c n_c c_c)] [(a.drop 0).take (min n_a n_b - 0), c] := Ps.of_new hBw66 rfl (by decide) (Parts.cons (Part.at (((hS9.ext hEw65)).ext hEw66)) (Parts.cons (Part.at (((((((((((((((((((((h_c.ext hEw1)).ext hEw2)).ext hEw3)).chg hCw4 (fun k h1 h2 hs => by have hn := hO1.ne hs; omega))).chg hCw5 (fun k h1 h2 hs => by have hn := hOw4.ne hs; omega))).chg hCw6 (fun k h1 h2 hs => by have hn := hOw5.ne hs; omega))).ext hEw7)).ext hEw8)).ext hEw43)).ext hEw65)).ext hEw66)) Parts.nil))
      refine ⟨.inr (hEw65.trans hEw66), ?_⟩
      refine anyM_one 5 2047 (by kernel_rfl) (by kernel_rfl) (op_callAt (d := (some 70)) (by kernel_rfl) (c_Join _ hSw66 (by simp [sumLen] <;> omega)) ?_)
      rintro _ w67 ⟨a45, rfl, hFz39_0, hFz39_1, hFz39_2, hFz39_3, hEw67⟩
      have hzw67 := hEw67.size
      have hla45 := hFz39_1.lt; have hna45 := hFz39_3
      have hSa45 : Bs a45 (a45 + 1) w67 (some ⟨a45, 0, none⟩) (sumLen ([(a.drop 0).take (min n_a n_b - 0), c])) (sumLen ([(a.drop 0).take (min n_a n_b - 0), c])) (([(a.drop 0).take (min n_a n_b - 0), c]).flatten) := Bs.of_blk hFz39_1 rfl hFz39_2 (Nat.le_refl _) (le_maxLen hna45) (Nat.le_refl _) (Nat.lt_succ_self _)
      refine ⟨.inr ((hEw65.trans hEw66).trans hEw67), ?_⟩
      refine anyM_one 11 4095 (by kernel_rfl) (by kernel_rfl) (op_callAt (d := (some 76)) (by kernel_rfl) (c_Join _ (((hSw65.ext hEw66)).ext hEw67) (by simp [sumLen] <;> omega)) ?_)
      rintro _ w68 ⟨a46, rfl, hFz40_0, hFz40_1, hFz40_2, hFz40_3, hEw68⟩
      have hzw68 := hEw68.size
      have hla46 := hFz40_1.lt; have hna46 := hFz40_3
      have hSa46 : Bs a46 (a46 + 1) w68 (some ⟨a46, 0, none⟩) (sumLen ([(b.drop 0).take (min n_a n_b - 0), c])) (sumLen ([(b.drop 0).take (min n_a n_b - 0), c])) (([(b.drop 0).take (min n_a n_b - 0), c]).flatten) := Bs.of_blk hFz40_1 rfl hFz40_2 (Nat.le_refl _) (le_maxLen hna46) (Nat.le_refl _) (Nat.lt_succ_self _)
      refine ⟨.inr (((hEw65.trans hEw66).trans hEw67).trans hEw68), ?_⟩
      refine anyM_one 12 8191 (by kernel_rfl) (by kernel_rfl) (op_callAt (d := (some 77)) (by kernel_rfl) (c_Xor _ (hSa45.ext hEw68) hSa46 (by simp [sumLen]; omega) (by omega)) ?_)
      rintro _ w69 ⟨a47, rfl, hFz41_0, hEw69⟩
      have hzw69 := hEw69.size
      refine ⟨.inr ((((hEw65.trans hEw66).trans hEw67).trans hEw68).trans hEw69), ?_⟩
      refine anyM_run hT546 13 16383 [(64, (.tuple #[(.slice a47 (sumLen ([(a.drop 0).take (min n_a n_b - 0), c])) (sumLen ([(a.drop 0).take (min n_a n_b - 0), c]))), (.int .i64 ((0 : Nat) : Int))]))] (QPan.then put_panic_bodyPost) (by kernel_rfl) (by kernel_rfl) (show Ext w43 w69 from ((((hEw65.trans hEw66).trans hEw67).trans hEw68).trans hEw69)) (fun _ => by kernel_rfl) ?_
      refine anyM_run hT546 14 32767 [(78, (.slice a47 (sumLen ([(a.drop 0).take (min n_a n_b - 0), c])) (sumLen ([(a.drop 0).take (min n_a n_b - 0), c]))))] (QPan.then put_panic_bodyPost) (by kernel_rfl) (by kernel_rfl) (show Ext w43 w69 from ((((hEw65.trans hEw66).trans hEw67).trans hEw68).trans hEw69)) (fun _ => by kernel_rfl) ?_
      refine anyM_run hT546 15 65535 [(79, (.int .i64 ((0 : Nat) : Int)))] (QPan.then put_panic_bodyPost) (by kernel_rfl) (by kernel_rfl) (show Ext w43 w69 from ((((hEw65.trans hEw66).trans hEw67).trans hEw68).trans hEw69)) (fun _ => by kernel_rfl) ?_
      refine anyM_run hT546 16 131071 [(10, (.slice a47 (sumLen ([(a.drop 0).take (min n_a n_b - 0), c])) (sumLen ([(a.drop 0).take (min n_a n_b - 0), c]))))] (QPan.then put_panic_bodyPost) (by kernel_rfl) (by kernel_rfl) (show Ext w43 w69 from ((((hEw65.trans hEw66).trans hEw67).trans hEw68).trans hEw69)) (fun _ => by kernel_rfl) ?_
      refine anyM_run hT546 17 262143 [(11, (.int .i64 ((0 : Nat) : Int)))] (QPan.then put_panic_bodyPost) (by kernel_rfl) (by kernel_rfl) (show Ext w43 w69 from ((((hEw65.trans hEw66).trans hEw67).trans hEw68).trans hEw69)) (fun _ => by kernel_rfl) ?_
      refine anyM_done (by kernel_rfl) ?_
      refine then_code ?_
      refine wpC_seq ?_
      refine wpC_drawM (Ext w69.drew) 12 [(82, 1, 0), (83, 512, 0), (84, 7253554917687775048237056, 3), (85, 2, 0), (86, 512, 0), (87, 58028439341502200385896448, 24), (88, 87042659012253300578844672, 36), (81, 154742504910672534362390528, 64), (89, 1208925819614629174706176, 128), (90, 1208925819614629174706176, 128), (13, 309485009821345068724781056, 511), (14, 618970019642690137449562112, 2047)] (by kernel_rfl) ⟨by kernel_rfl, by kernel_rfl, by kernel_rfl⟩ (fun hT771 => ?_)
      have hEw70 : Ext w69 w69.drew := Ext.drew w69
      generalize w69.drew = w70 at hEw70 ⊢
      have hzw70 := hEw70.size
      refine anyM_run hT771 0 1 [(81, (.slice a_a n_a c_a))] (QPan.then put_panic_bodyPost) (by kernel_rfl) (by kernel_rfl) (show Ext w70 w70 from (Ext.refl _)) (fun _ => by kernel_rfl) ?_
      refine anyM_run hT771 1 3 [(82, (.int .i64 ((min n_a n_b : Nat) : Int)))] (QPan.then put_panic_bodyPost) (by kernel_rfl) (by kernel_rfl) (show Ext w70 w70 from (Ext.refl _)) (fun _ => by kernel_rfl) ?_
      obtain ⟨a48, hR15, hS15⟩ := (((((((((((((((((((((((((((((h_a.ext hEw1)).ext hEw2)).ext hEw3)).chg hCw4 (fun k h1 h2 hs => by have hn := hO1.ne hs; omega))).chg hCw5 (fun k h1 h2 hs => by have hn := hOw4.ne hs; omega))).chg hCw6 (fun k h1 h2 hs => by have hn := hOw5.ne hs; omega))).ext hEw7)).ext hEw8)).ext hEw43)).ext hEw65)).ext hEw66)).ext hEw67)).ext hEw68)).ext hEw69)).ext hEw70).slice (P := Try.prog) (T := 23) (E := 5) (xl := none) (xh := (some (.int .i64 ((min n_a n_b : Nat) : Int)))) (mx := none) (x := 0) (r := min n_a n_b) (m := c_a) (by kernel_rfl) (by kernel_rfl) (.inl ⟨rfl, rfl⟩) (.inr ⟨_, rfl⟩) (.inl ⟨rfl, rfl⟩) (by simp) (by omega) (by omega) (by omega) (by omega)
      refine anyM_take hT771 2 7 (some 83) (.slice a48 (min n_a n_b - 0) (c_a - 0)) (QPan.then put_panic_bodyPost) (by kernel_rfl) (by kernel_rfl) (show Ext w70 w70 from (Ext.refl _)) (yld_val (s := Instr.sliceAt 23 (.slice a_a n_a c_a) none (some (.int .i64 ((min n_a n_b : Nat) : Int))) none) (by kernel_rfl) (fun w' hC => hR15 _)) ?_
      refine anyM_run hT771 3 15 [(84, (.slice a_b n_b c_b))] (QPan.then put_panic_bodyPost) (by kernel_rfl) (by kernel_rfl) (show Ext w70 w70 from (Ext.refl _)) (fun _ => by kernel_rfl) ?_
      refine anyM_run hT771 4 31 [(85, (.int .i64 ((min n_a n_b : Nat) : Int)))] (QPan.then put_panic_bodyPost) (by kernel_rfl) (by kernel_rfl) (show Ext w70 w70 from (Ext.refl _)) (fun _ => by kernel_rfl) ?_
      obtain ⟨a49, hR16, hS16⟩ := (((((((((((((((((((((((((((((h_b.ext hEw1)).ext hEw2)).ext hEw3)).chg hCw4 (fun k h1 h2 hs => by have hn := hO1.ne hs; omega))).chg hCw5 (fun k h1 h2 hs => by have hn := hOw4.ne hs; omega))).chg hCw6 (fun k h1 h2 hs => by have hn := hOw5.ne hs; omega))).ext hEw7)).ext hEw8)).ext hEw43)).ext hEw65)).ext hEw66)).ext hEw67)).ext hEw68)).ext hEw69)).ext hEw70).slice (P := Try.prog) (T := 23) (E := 5) (xl := none) (xh := (some (.int .i64 ((min n_a n_b : Nat) : Int)))) (mx := none) (x := 0) (r := min n_a n_b) (m := c_b) (by kernel_rfl) (by kernel_rfl) (.inl ⟨rfl, rfl⟩) (.inr ⟨_, rfl⟩) (.inl ⟨rfl, rfl⟩) (by simp) (by omega) (by omega) (by omega) (by omega)
      refine anyM_take hT771 5 63 (some 86) (.slice a49 (min n_a n_b - 0) (c_b - 0)) (QPan.then put_panic_bodyPost) (by kernel_rfl) (by kernel_rfl) (show Ext w70 w70 from (Ext.refl _)) (yld_val (s := Instr.sliceAt 23 (.slice a_b n_b c_b) none (some (.int .i64 ((min n_a n_b : Nat) : Int))) none) (by kernel_rfl) (fun w' hC => hR16 _)) ?_
      refine anyM_one 6 127 (by kernel_rfl) (by kernel_rfl) (op_callAt (d := (some 87)) (by kernel_rfl) (c_Xor _ hS15 hS16 (by omega) (by omega)) ?_)
      rintro _ w71 ⟨a50, rfl, hFz42_0, hEw71⟩
      have hzw71 := hEw71.size
      refine ⟨.inr hEw71, ?_⟩
      refine anyM_run hT771 7 255 [(80, (.tuple #[(.slice a50 (min n_a n_b - 0) (min n_a n_b - 0)), (.int .i64 ((0 : Nat) : Int))]))] (QPan.then put_panic_bodyPost) (by kernel_rfl) (by kernel_rfl) (show Ext w70 w71 from hEw71) (fun _ => by kernel_rfl) ?_
      refine anyM_run hT771 8 511 [(88, (.slice a50 (min n_a n_b - 0) (min n_a n_b - 0)))] (QPan.then put_panic_bodyPost) (by kernel_rfl) (by kernel_rfl) (show Ext w70 w71 from hEw71) (fun _ => by kernel_rfl) ?_
      refine anyM_run hT771 9 1023 [(89, (.int .i64 ((0 : Nat) : Int)))] (QPan.then put_panic_bodyPost) (by kernel_rfl) (by kernel_rfl) (show Ext w70 w71 from hEw71) (fun _ => by kernel_rfl) ?_
      refine anyM_run hT771 10 2047 [(12, (.slice a50 (min n_a n_b - 0) (min n_a n_b - 0)))] (QPan.then put_panic_bodyPost) (by kernel_rfl) (by kernel_rfl) (show Ext w70 w71 from hEw71) (fun _ => by kernel_rfl) ?_
      refine anyM_run hT771 11 4095 [(13, (.int .i64 ((0 : Nat) : Int)))] (QPan.then put_panic_bodyPost) (by kernel_rfl) (by kernel_rfl) (show Ext w70 w71 from hEw71) (fun _ => by kernel_rfl) ?_
      refine anyM_done (by kernel_rfl) ?_
      refine then_code ?_
      refine wpC_seq ?_
      refine wpC_region ?_
      refine wpF_run 1 [(90, (.int .i64 ((0 : Nat) : Int)))] (by kernel_rfl) ?_
      refine wpF_step (op_eqv (d := (some 91)) (.bool ((((0 : Nat) : Int) == ((0 : Nat) : Int)))) (.bool true) (by kernel_rfl) (congrArg Value.bool (cmpEqT rfl)) ?_)
      refine wpF_run 2 [(93, (.int .i64 ((0 : Nat) : Int))), (92, (.bool true))] (by kernel_rfl) ?_
      refine wpF_step (op_eqv (d := (some 94)) (.bool ((((0 : Nat) : Int) == ((0 : Nat) : Int)))) (.bool true) (by kernel_rfl) (congrArg Value.bool (cmpEqT rfl)) ?_)
      refine wpF_run 6 [(100, (.int .i64 ((n_c : Nat) : Int))), (99, (.slice a_c n_c c_c)), (98, (.slice a50 (min n_a n_b - 0) (min n_a n_b - 0))), (97, (.slice a47 (sumLen ([(a.drop 0).take (min n_a n_b - 0), c])) (sumLen ([(a.drop 0).take (min n_a n_b - 0), c])))), (96, (.bool true)), (95, (.bool true))] (by kernel_rfl) ?_
      refine wpF_step (op_make (d := (some 101)) 23 5 1 1 n_c .i64 .i64 (.int .u8 ((0 : Nat) : Int)) (by kernel_rfl) (by kernel_rfl) (by kernel_rfl) (by omega) (by omega) ?_)
      rw [show (Value.cells (.int .u8 ((0 : Nat) : Int))) = #[(.int .u8 ((0 : Nat) : Int))] from rfl, Nat.mul_one, madeCells_one]
      intro w72 hBw72 hEw72
      have hzw72 := hEw72.size; have hlw72 := hBw72.lt
      have hSw72 : Bs w71.heap.size (w71.heap.size + 1) w72 (some ⟨w71.heap.size, 0, none⟩) n_c n_c (List.replicate n_c 0) := Bs.of_blk hBw72 (u8s_zero _) (by simp) (Nat.le_refl _) (by simp only [maxLen]; omega) (Nat.le_refl _) (Nat.lt_succ_self _)
      refine wpF_step (op_new (d := (some 102)) (s := Instr.buildSlice 84 2 #[(0, (.slice a50 (min n_a n_b - 0) (min n_a n_b - 0))), (1, (.slice (some ⟨w71.heap.size, 0, none⟩) n_c n_c))]) (.slice (some ⟨w72.heap.size, 0, none⟩) 2 2) [(.slice a50 (min n_a n_b - 0) (min n_a n_b - 0)), (.slice (some ⟨w71.heap.size, 0, none⟩) n_c n_c)] 23 (by kernel_rfl) (by kernel_rfl) ?_)
      intro w73 hBw73 hEw73
      have hzw73 := hEw73.size; have hlw73 := hBw73.lt
      have hSw73 : Ps 0 w73.heap.size w73 (some ⟨w72.heap.size, 0, none⟩) 2 2 [(.slice a50 (min n_a n_b - 0) (min n_a n_b - 0)), (.slice (some ⟨w71.heap.size, 0, none⟩) n_c n_c)] [xorl ((a.drop 0).take (min n_a n_b - 0)) ((b.drop 0).take (min n_a n_b - 0)), List.replicate n_c 0] := Ps.of_new hBw73 rfl (by decide) (Parts.cons (Part.at (((hFz42_0.ext hEw72)).ext hEw73)) (Parts.cons (Part.at (hSw72.ext hEw73)) Parts.nil))
      refine wpF_step (op_callAt (d := (some 103)) (by kernel_rfl) (c_Join _ hSw73 (by simp only [sumLen, List.map_cons, List.map_nil, List.sum_cons, List.sum_nil, List.length_replicate]; rw [xorl_length (by simp; omega)]; simp; omega)) ?_)
      rintro _ w74 ⟨a51, rfl, hFz43_0, hFz43_1, hFz43_2, hFz43_3, hEw74⟩
      have hzw74 := hEw74.size
      have hla51 := hFz43_1.lt; have hna51 := hFz43_3
      have hSa51 : Bs a51 (a51 + 1) w74 (some ⟨a51, 0, none⟩) (sumLen ([xorl ((a.drop 0).take (min n_a n_b - 0)) ((b.drop 0).take (min n_a n_b - 0)), List.replicate n_c 0])) (sumLen ([xorl ((a.drop 0).take (min n_a n_b - 0)) ((b.drop 0).take (min n_a n_b - 0)), List.replicate n_c 0])) (([xorl ((a.drop 0).take (min n_a n_b - 0)) ((b.drop 0).take (min n_a n_b - 0)), List.replicate n_c 0]).flatten) := Bs.of_blk hFz43_1 rfl hFz43_2 (Nat.le_refl _) (le_maxLen hna51) (Nat.le_refl _) (Nat.lt_succ_self _)
      refine wpF_step (op_callAt (d := (some 104)) (by kernel_rfl) (c_same1 0 0 _ (((((((((hFz41_0.ext hEw70)).ext hEw71)).ext hEw72)).ext hEw73)).ext hEw74) hSa51 (rfl) (join_xor (by simp; omega) hlc) (rfl)) ?_)
      rintro _ _ ⟨rfl, rfl⟩
      refine wpF_run 2 [(106, (.bool true)), (105, (.bool true))] (by kernel_rfl) ?_
      refine wpF_step (op_callAt (d := (some 107)) (by kernel_rfl) (c_lives1 _) ?_)
      rintro _ w75 ⟨rfl, hEw75⟩
      have hzw75 := hEw75.size
      refine wpF_run 2 [(6, (.bool true)), (108, (.bool true))] (by kernel_rfl) ?_
      refine wpF_end (by kernel_rfl) ?_
      refine then_code ?_
      refine wpC_ret ?_
      refine body_ret1 (by kernel_rfl) (show resVal Try.prog 109 _ _ (.tmp 6) (.bool true) by (show _ = _; kernel_rfl)) ?_
      exact ⟨rfl, (((((((((((((((Ext.ownS (Ext.ownS (Ext.ownS ((hEw1.trans hEw2).trans hEw3) hCw4 (fun k hs hk => by have hn := hO1.ne hs; omega)) hCw5 (fun k hs hk => by have hn := hOw4.ne hs; omega)) hCw6 (fun k hs hk => by have hn := hOw5.ne hs; omega)).trans hEw7).trans hEw8).trans hEw43).trans hEw65).trans hEw66).trans hEw67).trans hEw68).trans hEw69).trans hEw70).trans hEw71).trans hEw72).trans hEw73).trans hEw74).trans hEw75)⟩

theorem c_WordsJoin {lo_a hi_a : Nat} {a_a : Option Addr} {n_a c_a : Nat} {a : List UInt8} {lo_b hi_b : Nat} {a_b : Option Addr} {n_b c_b : Nat} {b : List UInt8} {lo_c hi_c : Nat} {a_c : Option Addr} {n_c c_c : Nat} {c : List UInt8} (w : World) (h_a : Bs lo_a hi_a w a_a n_a c_a a) (h_b : Bs lo_b hi_b w a_b n_b c_b b) (h_c : Bs lo_c hi_c w a_c n_c c_c c) :
    Calls Try.prog 7 #[(.slice a_a n_a c_a), (.slice a_b n_b c_b), (.slice a_c n_c c_c)] w (Ret fun r w' => r = (.bool true) ∧ Ext w w') := by
  by_cases h0 : 40 < n_a
  · exact c_WordsJoin0 w h_a h_b h_c h0
  by_cases h1 : 40 < n_b
  · exact c_WordsJoin1 w h_a h_b h_c (by omega) h1
  by_cases h2 : 40 < n_c
  · exact c_WordsJoin2 w h_a h_b h_c (by omega) (by omega) h2
  exact c_WordsJoin3 w h_a h_b h_c (by omega) (by omega) (by omega)

end Go.Proofs.Ytigeaknjhnichaa
