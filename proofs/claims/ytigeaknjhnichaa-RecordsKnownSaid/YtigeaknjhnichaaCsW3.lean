/- CsW3: what each function does, by its own code. No condition beyond those of each statement. -/
import Derived.Test.YtigeaknjhnichaaCsW2
namespace Go.Proofs.Ytigeaknjhnichaa
open Go Go.RowKit Go.Cs
set_option maxRecDepth 100000
set_option linter.all false
set_option linter.unusedVariables false

theorem c_XorShort {lo_a hi_a : Nat} {a_a : Option Addr} {n_a c_a : Nat} {a : List UInt8} {lo_b hi_b : Nat} {a_b : Option Addr} {n_b c_b : Nat} {b : List UInt8}  (w : World) (h_a : Bs lo_a hi_a w a_a n_a c_a a) (h_b : Bs lo_b hi_b w a_b n_b c_b b) (hp0 : n_b < n_a) :
    Calls Try.prog 27 #[(.slice a_a n_a c_a), (.slice a_b n_b c_b)] w (Ret fun r w' => r = (.tuple #[(.slice none 0 0), (.int .i64 ((6 : Nat) : Int))]) ∧ Ext w w') := by
  refine calls_of (n := 42) (σ := [(0, (.slice a_a n_a c_a)), (1, (.slice a_b n_b c_b))]) Try.func27 rfl (by kernel_rfl) ?_
  replace h_a := h_a.now; have hle_a := h_a.le
  replace h_b := h_b.now; have hle_b := h_b.le
  refine wpC_seq ?_
  refine wpC_region ?_
  refine wpF_run 2 [(5, (.int .i64 ((0 : Nat) : Int))), (4, (.slice none 0 0))] (by kernel_rfl) ?_
  refine wpF_end (by kernel_rfl) ?_
  refine then_code ?_
  refine wpC_seq ?_
  refine wpC_block ?_
  refine wpC_seq ?_
  refine wpC_region ?_
  refine wpF_run 4 [(12, (.int .i64 ((n_a : Nat) : Int))), (11, (.slice a_a n_a c_a)), (10, (.int .i64 ((n_b : Nat) : Int))), (9, (.slice a_b n_b c_b))] (by kernel_rfl) ?_
  refine wpF_step (op_eqv (d := (some 13)) (.bool (decide (((n_b : Nat) : Int) < ((n_a : Nat) : Int)))) (.bool true) (by kernel_rfl) (congrArg Value.bool (cmpDT (by omega))) ?_)
  refine wpF_run 1 [(8, (.bool true))] (by kernel_rfl) ?_
  refine wpF_end (by kernel_rfl) ?_
  refine then_code ?_
  refine wpC_true (by kernel_rfl) ?_
  refine wpC_seq ?_
  refine wpC_region ?_
  refine wpF_run 2 [(5, (.int .i64 ((6 : Nat) : Int))), (4, (.slice none 0 0))] (by kernel_rfl) ?_
  refine wpF_end (by kernel_rfl) ?_
  refine then_code ?_
  refine wpC_ret ?_
  refine inBlock_ret ?_
  refine then_ret ?_
  refine body_ret2 (by kernel_rfl) (show resVal Try.prog 42 _ _ (.tmp 4) (.slice none 0 0) by (show _ = _; kernel_rfl)) (show resVal Try.prog 42 _ _ (.tmp 5) (.int .i64 ((6 : Nat) : Int)) by (show _ = _; kernel_rfl)) ?_
  exact ⟨rfl, (Ext.refl _)⟩

theorem c_XorLong {lo_a hi_a : Nat} {a_a : Option Addr} {n_a c_a : Nat} {a : List UInt8} {lo_b hi_b : Nat} {a_b : Option Addr} {n_b c_b : Nat} {b : List UInt8}  (w : World) (h_a : Bs lo_a hi_a w a_a n_a c_a a) (h_b : Bs lo_b hi_b w a_b n_b c_b b) (hp0 : n_a < n_b) :
    Calls Try.prog 27 #[(.slice a_a n_a c_a), (.slice a_b n_b c_b)] w (Ret fun r w' => r = (.tuple #[(.slice none 0 0), (.int .i64 ((5 : Nat) : Int))]) ∧ Ext w w') := by
  refine calls_of (n := 42) (σ := [(0, (.slice a_a n_a c_a)), (1, (.slice a_b n_b c_b))]) Try.func27 rfl (by kernel_rfl) ?_
  replace h_a := h_a.now; have hle_a := h_a.le
  replace h_b := h_b.now; have hle_b := h_b.le
  refine wpC_seq ?_
  refine wpC_region ?_
  refine wpF_run 2 [(5, (.int .i64 ((0 : Nat) : Int))), (4, (.slice none 0 0))] (by kernel_rfl) ?_
  refine wpF_end (by kernel_rfl) ?_
  refine then_code ?_
  refine wpC_seq ?_
  refine wpC_block ?_
  refine wpC_seq ?_
  refine wpC_region ?_
  refine wpF_run 4 [(12, (.int .i64 ((n_a : Nat) : Int))), (11, (.slice a_a n_a c_a)), (10, (.int .i64 ((n_b : Nat) : Int))), (9, (.slice a_b n_b c_b))] (by kernel_rfl) ?_
  refine wpF_step (op_eqv (d := (some 13)) (.bool (decide (((n_b : Nat) : Int) < ((n_a : Nat) : Int)))) (.bool false) (by kernel_rfl) (congrArg Value.bool (cmpDF (by omega))) ?_)
  refine wpF_run 1 [(8, (.bool false))] (by kernel_rfl) ?_
  refine wpF_end (by kernel_rfl) ?_
  refine then_code ?_
  refine wpC_false (by kernel_rfl) ?_
  refine wpC_seq ?_
  refine wpC_region ?_
  refine wpF_run 4 [(18, (.int .i64 ((n_a : Nat) : Int))), (17, (.slice a_a n_a c_a)), (16, (.int .i64 ((n_b : Nat) : Int))), (15, (.slice a_b n_b c_b))] (by kernel_rfl) ?_
  refine wpF_step (op_eqv (d := (some 19)) (.bool (decide (((n_b : Nat) : Int) > ((n_a : Nat) : Int)))) (.bool true) (by kernel_rfl) (congrArg Value.bool (cmpDT (by omega))) ?_)
  refine wpF_run 1 [(14, (.bool true))] (by kernel_rfl) ?_
  refine wpF_end (by kernel_rfl) ?_
  refine then_code ?_
  refine wpC_true (by kernel_rfl) ?_
  refine wpC_seq ?_
  refine wpC_region ?_
  refine wpF_run 2 [(5, (.int .i64 ((5 : Nat) : Int))), (4, (.slice none 0 0))] (by kernel_rfl) ?_
  refine wpF_end (by kernel_rfl) ?_
  refine then_code ?_
  refine wpC_ret ?_
  refine inBlock_ret ?_
  refine then_ret ?_
  refine body_ret2 (by kernel_rfl) (show resVal Try.prog 42 _ _ (.tmp 4) (.slice none 0 0) by (show _ = _; kernel_rfl)) (show resVal Try.prog 42 _ _ (.tmp 5) (.int .i64 ((5 : Nat) : Int)) by (show _ = _; kernel_rfl)) ?_
  exact ⟨rfl, (Ext.refl _)⟩

theorem c_Xor {lo_a hi_a : Nat} {a_a : Option Addr} {n_a c_a : Nat} {a : List UInt8} {lo_b hi_b : Nat} {a_b : Option Addr} {n_b c_b : Nat} {b : List UInt8}  (w : World) (h_a : Bs lo_a hi_a w a_a n_a c_a a) (h_b : Bs lo_b hi_b w a_b n_b c_b b) (hp0 : n_b = n_a) (hp1 : n_a ≤ 140737488355328) :
    Calls Try.prog 27 #[(.slice a_a n_a c_a), (.slice a_b n_b c_b)] w (Ret fun r w' => ∃ a0, r = (.tuple #[(.slice a0 n_a n_a), (.int .i64 ((0 : Nat) : Int))]) ∧ Bs w.heap.size w'.heap.size w' a0 n_a n_a (xorl a b) ∧ Ext w w') := by
  refine calls_of (n := 42) (σ := [(0, (.slice a_a n_a c_a)), (1, (.slice a_b n_b c_b))]) Try.func27 rfl (by kernel_rfl) ?_
  replace h_a := h_a.now; have hle_a := h_a.le
  replace h_b := h_b.now; have hle_b := h_b.le
  refine wpC_seq ?_
  refine wpC_region ?_
  refine wpF_run 2 [(5, (.int .i64 ((0 : Nat) : Int))), (4, (.slice none 0 0))] (by kernel_rfl) ?_
  refine wpF_end (by kernel_rfl) ?_
  refine then_code ?_
  refine wpC_seq ?_
  refine wpC_block ?_
  refine wpC_seq ?_
  refine wpC_region ?_
  refine wpF_run 4 [(12, (.int .i64 ((n_a : Nat) : Int))), (11, (.slice a_a n_a c_a)), (10, (.int .i64 ((n_b : Nat) : Int))), (9, (.slice a_b n_b c_b))] (by kernel_rfl) ?_
  refine wpF_step (op_eqv (d := (some 13)) (.bool (decide (((n_b : Nat) : Int) < ((n_a : Nat) : Int)))) (.bool false) (by kernel_rfl) (congrArg Value.bool (cmpDF (by omega))) ?_)
  refine wpF_run 1 [(8, (.bool false))] (by kernel_rfl) ?_
  refine wpF_end (by kernel_rfl) ?_
  refine then_code ?_
  refine wpC_false (by kernel_rfl) ?_
  refine wpC_seq ?_
  refine wpC_region ?_
  refine wpF_run 4 [(18, (.int .i64 ((n_a : Nat) : Int))), (17, (.slice a_a n_a c_a)), (16, (.int .i64 ((n_b : Nat) : Int))), (15, (.slice a_b n_b c_b))] (by kernel_rfl) ?_
  refine wpF_step (op_eqv (d := (some 19)) (.bool (decide (((n_b : Nat) : Int) > ((n_a : Nat) : Int)))) (.bool false) (by kernel_rfl) (congrArg Value.bool (cmpDF (by omega))) ?_)
  refine wpF_run 1 [(14, (.bool false))] (by kernel_rfl) ?_
  refine wpF_end (by kernel_rfl) ?_
  refine then_code ?_
  refine wpC_false (by kernel_rfl) ?_
  refine wpC_skip ?_
  refine inBlock_normal ?_
  refine then_code ?_
  refine wpC_seq ?_
  refine wpC_region ?_
  refine wpF_run 2 [(21, (.int .i64 ((n_a : Nat) : Int))), (20, (.slice a_a n_a c_a))] (by kernel_rfl) ?_
  refine wpF_step (op_make (d := (some 22)) 23 5 1 1 n_a .i64 .i64 (.int .u8 ((0 : Nat) : Int)) (by kernel_rfl) (by kernel_rfl) (by kernel_rfl) (by omega) (by omega) ?_)
  rw [show (Value.cells (.int .u8 ((0 : Nat) : Int))) = #[(.int .u8 ((0 : Nat) : Int))] from rfl, Nat.mul_one, madeCells_one]
  intro w1 hBw1 hEw1
  have hzw1 := hEw1.size; have hlw1 := hBw1.lt
  have hSw1 : Bs w.heap.size (w.heap.size + 1) w1 (some ⟨w.heap.size, 0, none⟩) n_a n_a (List.replicate n_a 0) := Bs.of_blk hBw1 (u8s_zero _) (by simp) (Nat.le_refl _) (by simp only [maxLen]; omega) (Nat.le_refl _) (Nat.lt_succ_self _)
  refine wpF_run 1 [(6, (.slice (some ⟨w.heap.size, 0, none⟩) n_a n_a))] (by kernel_rfl) ?_
  refine wpF_end (by kernel_rfl) ?_
  refine then_code ?_
  refine wpC_seq ?_
  refine wpC_seq ?_
  refine wpC_region ?_
  refine wpF_run 3 [(25, (.int .i64 ((0 : Nat) : Int))), (24, (.int .i64 ((n_a : Nat) : Int))), (23, (.slice a_a n_a c_a))] (by kernel_rfl) ?_
  refine wpF_end (by kernel_rfl) ?_
  refine then_code ?_
  refine wpC_block ?_
  refine wpC_loop (X := Nat) (fun i => [(25, (.int .i64 ((i : Nat) : Int)))]) [7, 26, 27, 28, 29, 30, 31, 32, 33, 34, 35, 36, 37, 38, 39, 40] (fun i w2 => i ≤ n_a ∧ Blk w2 w.heap.size (u8s (pick n_a (fun j => decide (j < i)) fun j => UInt8.ofNat (byt a j ^^^ byt b j))) 5 ∧ Ext w w2) (fun i => n_a - i) 0 (by kernel_rfl) ⟨by omega, (by rw [pick_none _ _ _ (by intro j hj; simp)]; rw [← u8s_zero]; exact hBw1), hEw1⟩ ?_
  rintro i dw2 w2 ⟨hi, hBl, hEl⟩
  have hzl := hEl.size; have hll := hBl.lt
  refine wpC_seq ?_
  refine wpC_region ?_
  refine wpF_step (op_split (d := (some 26)) (decide (((i : Nat) : Int) < ((n_a : Nat) : Int))) (by kernel_rfl) (fun hc26 => ?_) (fun hc26 => ?_))
  · replace hc26 : i < n_a := by have := of_d_t hc26; omega
    refine wpF_end (by kernel_rfl) ?_
    refine then_code ?_
    refine wpC_seq ?_
    refine wpC_true (by kernel_rfl) ?_
    refine wpC_skip ?_
    refine then_code ?_
    refine wpC_seq ?_
    refine wpC_block ?_
    refine wpC_seq ?_
    refine wpC_region ?_
    refine wpF_run 2 [(7, (.int .i64 ((i : Nat) : Int))), (27, (.int .i64 ((i : Nat) : Int)))] (by kernel_rfl) ?_
    refine wpF_end (by kernel_rfl) ?_
    refine then_code ?_
    refine wpC_drawM (Ext w2.drew) 13 [(29, 64, 0), (30, 128, 0), (31, 1, 0), (32, 128, 0), (33, 3221225472, 12), (34, 4294967296, 16), (35, 2, 0), (36, 128, 0), (37, 51539607552, 192), (38, 68719476736, 256), (39, 146028888064, 544), (40, 805306368, 2047), (0, 824633720832, 4095)] (by kernel_rfl) ⟨by kernel_rfl, by kernel_rfl, by kernel_rfl⟩ (fun hT139 => ?_)
    have hEw3 : Ext w2 w2.drew := Ext.drew w2
    generalize w2.drew = w3 at hEw3 ⊢
    have hzw3 := hEw3.size
    refine anyM_run hT139 0 1 [(28, (.slice (some ⟨w.heap.size, 0, none⟩) n_a n_a))] (QPan.inBlock (QPan.then (QPan.then (QPan.inBlock (QPan.then put_panic_bodyPost))))) (by kernel_rfl) (by kernel_rfl) (show Ext w3 w3 from (Ext.refl _)) (fun _ => by kernel_rfl) ?_
    refine anyM_run hT139 1 3 [(29, (.int .i64 ((i : Nat) : Int)))] (QPan.inBlock (QPan.then (QPan.then (QPan.inBlock (QPan.then put_panic_bodyPost))))) (by kernel_rfl) (by kernel_rfl) (show Ext w3 w3 from (Ext.refl _)) (fun _ => by kernel_rfl) ?_
    refine anyM_run hT139 2 7 [(30, (.slice a_a n_a c_a))] (QPan.inBlock (QPan.then (QPan.then (QPan.inBlock (QPan.then put_panic_bodyPost))))) (by kernel_rfl) (by kernel_rfl) (show Ext w3 w3 from (Ext.refl _)) (fun _ => by kernel_rfl) ?_
    refine anyM_run hT139 3 15 [(31, (.int .i64 ((i : Nat) : Int)))] (QPan.inBlock (QPan.then (QPan.then (QPan.inBlock (QPan.then put_panic_bodyPost))))) (by kernel_rfl) (by kernel_rfl) (show Ext w3 w3 from (Ext.refl _)) (fun _ => by kernel_rfl) ?_
    obtain ⟨b1, o1, rfl⟩ := h_a.addr (by omega)
    refine anyM_take hT139 4 31 (some 32) (.pointer (some ⟨b1, o1 + i * 1, none⟩)) (QPan.inBlock (QPan.then (QPan.then (QPan.inBlock (QPan.then put_panic_bodyPost))))) (by kernel_rfl) (by kernel_rfl) (show Ext w3 w3 from (Ext.refl _)) (yld_val (s := Instr.indexAt 23 (.slice (some ⟨b1, o1, none⟩) n_a c_a) (.int .i64 ((i : Nat) : Int))) (by kernel_rfl) (fun w' hC => rn_ixs (E := 5) (sz := 1) (by kernel_rfl) (by kernel_rfl) (by omega))) ?_
    refine anyM_take hT139 5 63 (some 33) (.int .u8 ((byt a i : Nat) : Int)) (QPan.inBlock (QPan.then (QPan.then (QPan.inBlock (QPan.then put_panic_bodyPost))))) (by kernel_rfl) (by kernel_rfl) (show Ext w3 w3 from (Ext.refl _)) (yld_val (s := Instr.loadAt 5 (.pointer (some ⟨b1, o1 + i * 1, none⟩))) (by kernel_rfl) (fun w' hC => rn_ld (by kernel_rfl) (((((h_a.ext hEl)).ext hEw3).ext hC).cell1 (by omega)))) ?_
    refine anyM_run hT139 6 127 [(34, (.slice a_b n_b c_b))] (QPan.inBlock (QPan.then (QPan.then (QPan.inBlock (QPan.then put_panic_bodyPost))))) (by kernel_rfl) (by kernel_rfl) (show Ext w3 w3 from (Ext.refl _)) (fun _ => by kernel_rfl) ?_
    refine anyM_run hT139 7 255 [(35, (.int .i64 ((i : Nat) : Int)))] (QPan.inBlock (QPan.then (QPan.then (QPan.inBlock (QPan.then put_panic_bodyPost))))) (by kernel_rfl) (by kernel_rfl) (show Ext w3 w3 from (Ext.refl _)) (fun _ => by kernel_rfl) ?_
    obtain ⟨b2, o2, rfl⟩ := h_b.addr (by omega)
    refine anyM_take hT139 8 511 (some 36) (.pointer (some ⟨b2, o2 + i * 1, none⟩)) (QPan.inBlock (QPan.then (QPan.then (QPan.inBlock (QPan.then put_panic_bodyPost))))) (by kernel_rfl) (by kernel_rfl) (show Ext w3 w3 from (Ext.refl _)) (yld_val (s := Instr.indexAt 23 (.slice (some ⟨b2, o2, none⟩) n_b c_b) (.int .i64 ((i : Nat) : Int))) (by kernel_rfl) (fun w' hC => rn_ixs (E := 5) (sz := 1) (by kernel_rfl) (by kernel_rfl) (by omega))) ?_
    refine anyM_take hT139 9 1023 (some 37) (.int .u8 ((byt b i : Nat) : Int)) (QPan.inBlock (QPan.then (QPan.then (QPan.inBlock (QPan.then put_panic_bodyPost))))) (by kernel_rfl) (by kernel_rfl) (show Ext w3 w3 from (Ext.refl _)) (yld_val (s := Instr.loadAt 5 (.pointer (some ⟨b2, o2 + i * 1, none⟩))) (by kernel_rfl) (fun w' hC => rn_ld (by kernel_rfl) (((((h_b.ext hEl)).ext hEw3).ext hC).cell1 (by omega)))) ?_
    refine anyM_take hT139 10 2047 (some 38) (.int .u8 ((byt a i ^^^ byt b i : Nat) : Int)) (QPan.inBlock (QPan.then (QPan.then (QPan.inBlock (QPan.then put_panic_bodyPost))))) (by kernel_rfl) (by kernel_rfl) (show Ext w3 w3 from (Ext.refl _)) (yld_valAt (u := (.int .u8 ((IntKind.u8.wrap ((BitVec.ofInt IntKind.u8.bits ((byt a i : Nat) : Int) ^^^ BitVec.ofInt IntKind.u8.bits ((byt b i : Nat) : Int)).toNat : Int))))) (fun _ => by kernel_rfl) (congrArg (Value.int .u8) (xorU .u8 rfl (byt_lt _ _) (byt_lt _ _))) ⟨_, (show Ext w3 w3 from (Ext.refl _))⟩) ?_
    refine anyM_take hT139 11 4095 (some 39) (.pointer (some ⟨w.heap.size, 0 + i * 1, none⟩)) (QPan.inBlock (QPan.then (QPan.then (QPan.inBlock (QPan.then put_panic_bodyPost))))) (by kernel_rfl) (by kernel_rfl) (show Ext w3 w3 from (Ext.refl _)) (yld_val (s := Instr.indexAt 23 (.slice (some ⟨w.heap.size, 0, none⟩) n_a n_a) (.int .i64 ((i : Nat) : Int))) (by kernel_rfl) (fun w' hC => rn_ixs (E := 5) (sz := 1) (by kernel_rfl) (by kernel_rfl) (by omega))) ?_
    refine anyM_one 12 8191 (by kernel_rfl) (by kernel_rfl) (op_store (d := none) 5 w.heap.size (0 + i * 1) 5 (.int .u8 ((byt a i ^^^ byt b i : Nat) : Int)) (u8s (pick n_a (fun j => decide (j < i)) fun j => UInt8.ofNat (byt a j ^^^ byt b j))) ([(.int .u8 ((byt a i ^^^ byt b i : Nat) : Int))]) (by kernel_rfl) (hBl.ext hEw3) rfl (by kernel_rfl) (by simp; omega) (by simp [Value.oneCell']) ?_)
    intro w4 hBw4 hCw4
    have hzw4 := hCw4.size
    rw [show setFrom (u8s (pick n_a (fun j => decide (j < i)) fun j => UInt8.ofNat (byt a j ^^^ byt b j))) (0 + i * 1) ([(.int .u8 ((byt a i ^^^ byt b i : Nat) : Int))]) = u8s (pick n_a (fun j => decide (j < i + 1)) fun j => UInt8.ofNat (byt a j ^^^ byt b j)) from by have hx := pick_set n_a (fun j => decide (j < i)) (fun j => decide (j < i + 1)) (fun j => UInt8.ofNat (byt a j ^^^ byt b j)) i (UInt8.ofNat (byt a i ^^^ byt b i)) (by omega) rfl (by intro j hj; by_cases h1 : j < i + 1 <;> by_cases h2 : j < i <;> by_cases h3 : j = i <;> simp [h1, h2, h3] <;> omega); rw [UInt8.toNat_ofNat', Nat.mod_eq_of_lt (xor_lt256 _ _ (byt_lt _ _) (byt_lt _ _))] at hx; simpa [setFrom] using hx] at hBw4
    refine ⟨.inl (by kernel_rfl), ?_⟩
    refine anyM_done (by kernel_rfl) ?_
    refine inBlock_normal ?_
    refine then_code ?_
    refine wpC_region ?_
    refine wpF_step (op_eqv (d := (some 40)) (.int .i64 (IntKind.i64.wrap (((i : Nat) : Int) + ((1 : Nat) : Int)))) (.int .i64 ((i + 1 : Nat) : Int)) (by kernel_rfl) (congrArg (Value.int .i64) (wrapS (by omega) (by omega) (by omega))) ?_)
    refine wpF_run 1 [(25, (.int .i64 ((i + 1 : Nat) : Int)))] (by kernel_rfl) ?_
    refine wpF_end (by kernel_rfl) ?_
    refine then_normal ?_
    refine endR_mk (i + 1) (by kernel_rfl) ?_ ?_
    · exact ⟨by omega, hBw4, (Ext.own (hEl.trans hEw3) hCw4 (by omega))⟩
    · first | omega | (dsimp only; omega)
  · replace hc26 : ¬ (i < n_a) := by have := of_d_f hc26; omega
    refine wpF_end (by kernel_rfl) ?_
    refine then_code ?_
    refine wpC_seq ?_
    refine wpC_false (by kernel_rfl) ?_
    refine wpC_exit ?_
    refine then_exit ?_
    refine then_exit ?_
    refine inBlock_exit ?_
    refine then_code ?_
    refine wpC_seq ?_
    refine wpC_region ?_
    refine wpF_run 3 [(5, (.int .i64 ((0 : Nat) : Int))), (4, (.slice (some ⟨w.heap.size, 0, none⟩) n_a n_a)), (41, (.slice (some ⟨w.heap.size, 0, none⟩) n_a n_a))] (by kernel_rfl) ?_
    refine wpF_end (by kernel_rfl) ?_
    refine then_code ?_
    refine wpC_ret ?_
    refine body_ret2 (by kernel_rfl) (show resVal Try.prog 42 _ _ (.tmp 4) (.slice (some ⟨w.heap.size, 0, none⟩) n_a n_a) by (show _ = _; kernel_rfl)) (show resVal Try.prog 42 _ _ (.tmp 5) (.int .i64 ((0 : Nat) : Int)) by (show _ = _; kernel_rfl)) ?_
    have hla := h_a.len_eq
    have hlb := h_b.len_eq
    refine ⟨_, rfl, Bs.of_blk hBl ?_ (by rw [xorl_length (by omega)]; omega) (by omega) (by simp only [maxLen]; omega) (by omega) (by omega), hEl⟩
    rw [pick_all _ _ _ (by intro j hj; simp; omega), xorl_eq (by omega)]
    subst hla; rfl

theorem c_rXor {lo_a hi_a : Nat} {a_a : Option Addr} {n_a c_a : Nat} {a : List UInt8} {lo_b hi_b : Nat} {a_b : Option Addr} {n_b c_b : Nat} {b : List UInt8}  (w : World) (h_a : Bs lo_a hi_a w a_a n_a c_a a) (h_b : Bs lo_b hi_b w a_b n_b c_b b) (hp0 : n_b = n_a) (hp1 : n_a ≤ 140737488355328) :
    Calls Try.prog 28 #[(.slice a_a n_a c_a), (.slice a_b n_b c_b)] w (Ret fun r w' => ∃ a0 ca0, r = (.slice a0 n_a ca0) ∧ Es u8v w.heap.size w'.heap.size w' a0 n_a ca0 (xorl a b) ∧ Ext w w') := by
  refine calls_of (n := 44) (σ := [(0, (.slice a_a n_a c_a)), (1, (.slice a_b n_b c_b))]) Try.func28 rfl (by kernel_rfl) ?_
  replace h_a := h_a.now; have hle_a := h_a.le
  replace h_b := h_b.now; have hle_b := h_b.le
  refine wpC_seq ?_
  refine wpC_region ?_
  refine wpF_run 1 [(4, (.slice none 0 0))] (by kernel_rfl) ?_
  refine wpF_end (by kernel_rfl) ?_
  refine then_code ?_
  refine wpC_seq ?_
  refine wpC_region ?_
  refine wpF_run 1 [(5, (.slice none 0 0))] (by kernel_rfl) ?_
  refine wpF_end (by kernel_rfl) ?_
  refine then_code ?_
  refine wpC_seq ?_
  refine wpC_seq ?_
  refine wpC_region ?_
  refine wpF_run 1 [(6, (.int .i64 ((0 : Nat) : Int)))] (by kernel_rfl) ?_
  refine wpF_end (by kernel_rfl) ?_
  refine then_code ?_
  refine wpC_block ?_
  refine wpC_loop (X := Nat × Option Addr × Nat) (fun ⟨i, p, cp⟩ => [(5, (.slice p i cp)), (6, (.int .i64 ((i : Nat) : Int)))]) [7, 8, 9, 10, 11, 12, 13, 14, 15, 16, 17, 18, 19, 20, 21, 22, 23, 24, 25, 26, 27, 28, 29, 30, 31, 32, 33, 34, 35, 36, 37, 38, 39, 40, 41, 42] (fun ⟨i, p, cp⟩ w1 => i ≤ n_a ∧ Own u8v w.heap.size w1.heap.size w1 p i cp 5 ((xorl a b).take i) ∧ Ext w w1) (fun ⟨i, p, cp⟩ => n_a - i) (0, none, 0) (by kernel_rfl) ⟨by omega, Own.nil _ _ _ _ _, (Ext.refl _)⟩ ?_
  rintro ⟨i, p, cp⟩ dw1 w1 ⟨hi, hO, hEl⟩
  have hzl := hEl.size
  have hle := hO.es.le
  have hla := h_a.len_eq
  have hlb := h_b.len_eq
  refine wpC_seq ?_
  refine wpC_seq ?_
  refine wpC_region ?_
  refine wpF_run 3 [(11, (.int .i64 ((n_a : Nat) : Int))), (10, (.slice a_a n_a c_a)), (9, (.int .i64 ((i : Nat) : Int)))] (by kernel_rfl) ?_
  refine wpF_step (op_split (d := (some 12)) (decide (((i : Nat) : Int) < ((n_a : Nat) : Int))) (by kernel_rfl) (fun hc12 => ?_) (fun hc12 => ?_))
  · replace hc12 : i < n_a := by have := of_d_t hc12; omega
    refine wpF_end (by kernel_rfl) ?_
    refine then_code ?_
    refine wpC_true (by kernel_rfl) ?_
    refine wpC_skip ?_
    refine then_code ?_
    refine wpC_seq ?_
    refine wpC_block ?_
    refine wpC_seq ?_
    refine wpC_region ?_
    refine wpF_run 1 [(7, (.int .i64 ((0 : Nat) : Int)))] (by kernel_rfl) ?_
    refine wpF_end (by kernel_rfl) ?_
    refine then_code ?_
    refine wpC_seq ?_
    refine wpC_seq ?_
    refine wpC_region ?_
    refine wpF_run 1 [(8, (.int .i64 ((128 : Nat) : Int)))] (by kernel_rfl) ?_
    refine wpF_end (by kernel_rfl) ?_
    refine then_code ?_
    refine wpC_block ?_
    refine wpC_loop (X := Nat) (fun t => [(7, (.int .i64 (((byt a i ^^^ byt b i) / 2 ^ (8 - t) : Nat) : Int))), (8, (.int .i64 ((128 / 2 ^ t : Nat) : Int)))]) [15, 16, 17, 18, 19, 20, 21, 22, 23, 24, 25, 26, 27, 28, 29, 30, 31, 32, 33, 34, 35, 36, 37] (fun t w2 => t ≤ 8 ∧ Ext w1 w2) (fun t => 8 - t) 0 (by rw [xor_start a b i]; kernel_rfl) ⟨by omega, (Ext.refl _)⟩ ?_
    rintro t dw2 w2 ⟨ht, hEi⟩
    have hzi := hEi.size
    refine wpC_seq ?_
    refine wpC_seq ?_
    refine wpC_region ?_
    refine wpF_run 1 [(15, (.int .i64 ((128 / 2 ^ t : Nat) : Int)))] (by kernel_rfl) ?_
    refine wpF_step (op_split (d := some 16) (decide (((128 / 2 ^ t : Nat) : Int) > ((0 : Nat) : Int))) (by kernel_rfl) (fun hct => ?_) (fun hct => ?_))
    · replace hct : 0 < 128 / 2 ^ t := by have := of_d_t hct; omega
      have htl : t < 8 := pow_pos_lt hct
      have hxa := byt_lt a i; have hxb := byt_lt b i
      have hst := xor_top (byt a i) (byt b i) t htl
      have hx8 := xor_top_lt (byt a i) (byt b i) t hxa hxb
      have hqa : byt a i / (128 / 2 ^ t) ≤ byt a i := Nat.div_le_self _ _; have hqb : byt b i / (128 / 2 ^ t) ≤ byt b i := Nat.div_le_self _ _
      have hqa0 : (0 : Int) ≤ ((byt a i / (128 / 2 ^ t) : Nat) : Int) := Int.natCast_nonneg _; have hqb0 : (0 : Int) ≤ ((byt b i / (128 / 2 ^ t) : Nat) : Int) := Int.natCast_nonneg _; have hq0 : (0 : Int) ≤ ((128 / 2 ^ (t + 1) : Nat) : Int) := Int.natCast_nonneg _
      refine wpF_end (by kernel_rfl) ?_
      refine then_code ?_
      refine wpC_true (by kernel_rfl) ?_
      refine wpC_skip ?_
      refine then_code ?_
      refine wpC_seq ?_
      refine wpC_block ?_
      refine wpC_drawM (Ext w2.drew) 20 [(20, 128, 0), (21, 524288, 1), (22, 1, 0), (23, 64, 0), (24, 6291456, 12), (25, 8388608, 16), (26, 16777216, 32), (27, 256, 0), (28, 100663296, 192), (29, 2, 0), (30, 64, 0), (31, 805306368, 1536), (32, 1073741824, 2048), (33, 2147483648, 4096), (34, 256, 0), (35, 12884901888, 24576), (36, 17314086912, 33024), (37, 34359738368, 65536), (38, 68720525312, 131074), (8, 137438953472, 524287)] (by kernel_rfl) ⟨by kernel_rfl, by kernel_rfl, by kernel_rfl⟩ (fun hT271 => ?_)
      have hEw3 : Ext w2 w2.drew := Ext.drew w2
      generalize w2.drew = w3 at hEw3 ⊢
      have hzw3 := hEw3.size
      refine anyM_run hT271 0 1 [(19, (.int .i64 (((byt a i ^^^ byt b i) / 2 ^ (8 - t) : Nat) : Int)))] (QPan.inBlock (QPan.then (QPan.then (QPan.inBlock (QPan.then (QPan.inBlock (QPan.then (QPan.then (QPan.inBlock (QPan.then put_panic_bodyPost)))))))))) (by kernel_rfl) (by kernel_rfl) (show Ext w3 w3 from (Ext.refl _)) (fun _ => by kernel_rfl) ?_
      refine anyM_take hT271 1 3 (some 20) (.int .i64 ((2 * ((byt a i ^^^ byt b i) / 2 ^ (8 - t)) : Nat) : Int)) (QPan.inBlock (QPan.then (QPan.then (QPan.inBlock (QPan.then (QPan.inBlock (QPan.then (QPan.then (QPan.inBlock (QPan.then put_panic_bodyPost)))))))))) (by kernel_rfl) (by kernel_rfl) (show Ext w3 w3 from (Ext.refl _)) (yld_valAt (u := (.int .i64 (IntKind.i64.wrap (((2 : Nat) : Int) * (((byt a i ^^^ byt b i) / 2 ^ (8 - t) : Nat) : Int))))) (fun _ => by kernel_rfl) (congrArg (Value.int .i64) (wrapS (by omega) (by omega) (by omega))) ⟨_, (show Ext w3 w3 from (Ext.refl _))⟩) ?_
      refine anyM_run hT271 2 7 [(21, (.slice a_a n_a c_a))] (QPan.inBlock (QPan.then (QPan.then (QPan.inBlock (QPan.then (QPan.inBlock (QPan.then (QPan.then (QPan.inBlock (QPan.then put_panic_bodyPost)))))))))) (by kernel_rfl) (by kernel_rfl) (show Ext w3 w3 from (Ext.refl _)) (fun _ => by kernel_rfl) ?_
      refine anyM_run hT271 3 15 [(22, (.int .i64 ((i : Nat) : Int)))] (QPan.inBlock (QPan.then (QPan.then (QPan.inBlock (QPan.then (QPan.inBlock (QPan.then (QPan.then (QPan.inBlock (QPan.then put_panic_bodyPost)))))))))) (by kernel_rfl) (by kernel_rfl) (show Ext w3 w3 from (Ext.refl _)) (fun _ => by kernel_rfl) ?_
      obtain ⟨b1, o1, rfl⟩ := h_a.addr (by omega)
      refine anyM_take hT271 4 31 (some 23) (.pointer (some ⟨b1, o1 + i * 1, none⟩)) (QPan.inBlock (QPan.then (QPan.then (QPan.inBlock (QPan.then (QPan.inBlock (QPan.then (QPan.then (QPan.inBlock (QPan.then put_panic_bodyPost)))))))))) (by kernel_rfl) (by kernel_rfl) (show Ext w3 w3 from (Ext.refl _)) (yld_val (s := Instr.indexAt 23 (.slice (some ⟨b1, o1, none⟩) n_a c_a) (.int .i64 ((i : Nat) : Int))) (by kernel_rfl) (fun w' hC => rn_ixs (E := 5) (sz := 1) (by kernel_rfl) (by kernel_rfl) (by omega))) ?_
      refine anyM_take hT271 5 63 (some 24) (.int .u8 ((byt a i : Nat) : Int)) (QPan.inBlock (QPan.then (QPan.then (QPan.inBlock (QPan.then (QPan.inBlock (QPan.then (QPan.then (QPan.inBlock (QPan.then put_panic_bodyPost)))))))))) (by kernel_rfl) (by kernel_rfl) (show Ext w3 w3 from (Ext.refl _)) (yld_val (s := Instr.loadAt 5 (.pointer (some ⟨b1, o1 + i * 1, none⟩))) (by kernel_rfl) (fun w' hC => rn_ld (by kernel_rfl) (((((((h_a.ext hEl)).ext hEi)).ext hEw3).ext hC).cell1 (by omega)))) ?_
      refine anyM_take hT271 6 127 (some 25) (.int .i64 ((byt a i : Nat) : Int)) (QPan.inBlock (QPan.then (QPan.then (QPan.inBlock (QPan.then (QPan.inBlock (QPan.then (QPan.then (QPan.inBlock (QPan.then put_panic_bodyPost)))))))))) (by kernel_rfl) (by kernel_rfl) (show Ext w3 w3 from (Ext.refl _)) (yld_valAt (u := (.int .i64 (IntKind.i64.wrap ((byt a i : Nat) : Int)))) (fun _ => by kernel_rfl) (congrArg (Value.int .i64) (wrapS rfl (by omega) (by omega))) ⟨_, (show Ext w3 w3 from (Ext.refl _))⟩) ?_
      refine anyM_run hT271 7 255 [(26, (.int .i64 ((128 / 2 ^ t : Nat) : Int)))] (QPan.inBlock (QPan.then (QPan.then (QPan.inBlock (QPan.then (QPan.inBlock (QPan.then (QPan.then (QPan.inBlock (QPan.then put_panic_bodyPost)))))))))) (by kernel_rfl) (by kernel_rfl) (show Ext w3 w3 from (Ext.refl _)) (fun _ => by kernel_rfl) ?_
      refine anyM_take hT271 8 511 (some 27) (.int .i64 (((byt a i) / (128 / 2 ^ t) : Nat) : Int)) (QPan.inBlock (QPan.then (QPan.then (QPan.inBlock (QPan.then (QPan.inBlock (QPan.then (QPan.then (QPan.inBlock (QPan.then put_panic_bodyPost)))))))))) (by kernel_rfl) (by kernel_rfl) (show Ext w3 w3 from (Ext.refl _)) (yld_val (s := (do eqGuard .quo 3 (.tmp 25) (.tmp 26) (.int .i64 ((byt a i : Nat) : Int)) (.int .i64 ((128 / 2 ^ t : Nat) : Int)); binOp .quo 3 (.int .i64 ((byt a i : Nat) : Int)) (.int .i64 ((128 / 2 ^ t : Nat) : Int)))) (by kernel_rfl) (fun w' hC => run_quo (hct) (fun z hz => wrapS rfl (by omega) (by omega)))) ?_
      refine anyM_run hT271 9 1023 [(28, (.slice a_b n_b c_b))] (QPan.inBlock (QPan.then (QPan.then (QPan.inBlock (QPan.then (QPan.inBlock (QPan.then (QPan.then (QPan.inBlock (QPan.then put_panic_bodyPost)))))))))) (by kernel_rfl) (by kernel_rfl) (show Ext w3 w3 from (Ext.refl _)) (fun _ => by kernel_rfl) ?_
      refine anyM_run hT271 10 2047 [(29, (.int .i64 ((i : Nat) : Int)))] (QPan.inBlock (QPan.then (QPan.then (QPan.inBlock (QPan.then (QPan.inBlock (QPan.then (QPan.then (QPan.inBlock (QPan.then put_panic_bodyPost)))))))))) (by kernel_rfl) (by kernel_rfl) (show Ext w3 w3 from (Ext.refl _)) (fun _ => by kernel_rfl) ?_
      obtain ⟨b2, o2, rfl⟩ := h_b.addr (by omega)
      refine anyM_take hT271 11 4095 (some 30) (.pointer (some ⟨b2, o2 + i * 1, none⟩)) (QPan.inBlock (QPan.then (QPan.then (QPan.inBlock (QPan.then (QPan.inBlock (QPan.then (QPan.then (QPan.inBlock (QPan.then put_panic_bodyPost)))))))))) (by kernel_rfl) (by kernel_rfl) (show Ext w3 w3 from (Ext.refl _)) (yld_val (s := Instr.indexAt 23 (.slice (some ⟨b2, o2, none⟩) n_b c_b) (.int .i64 ((i : Nat) : Int))) (by kernel_rfl) (fun w' hC => rn_ixs (E := 5) (sz := 1) (by kernel_rfl) (by kernel_rfl) (by omega))) ?_
      refine anyM_take hT271 12 8191 (some 31) (.int .u8 ((byt b i : Nat) : Int)) (QPan.inBlock (QPan.then (QPan.then (QPan.inBlock (QPan.then (QPan.inBlock (QPan.then (QPan.then (QPan.inBlock (QPan.then put_panic_bodyPost)))))))))) (by kernel_rfl) (by kernel_rfl) (show Ext w3 w3 from (Ext.refl _)) (yld_val (s := Instr.loadAt 5 (.pointer (some ⟨b2, o2 + i * 1, none⟩))) (by kernel_rfl) (fun w' hC => rn_ld (by kernel_rfl) (((((((h_b.ext hEl)).ext hEi)).ext hEw3).ext hC).cell1 (by omega)))) ?_
      refine anyM_take hT271 13 16383 (some 32) (.int .i64 ((byt b i : Nat) : Int)) (QPan.inBlock (QPan.then (QPan.then (QPan.inBlock (QPan.then (QPan.inBlock (QPan.then (QPan.then (QPan.inBlock (QPan.then put_panic_bodyPost)))))))))) (by kernel_rfl) (by kernel_rfl) (show Ext w3 w3 from (Ext.refl _)) (yld_valAt (u := (.int .i64 (IntKind.i64.wrap ((byt b i : Nat) : Int)))) (fun _ => by kernel_rfl) (congrArg (Value.int .i64) (wrapS rfl (by omega) (by omega))) ⟨_, (show Ext w3 w3 from (Ext.refl _))⟩) ?_
      refine anyM_run hT271 14 32767 [(33, (.int .i64 ((128 / 2 ^ t : Nat) : Int)))] (QPan.inBlock (QPan.then (QPan.then (QPan.inBlock (QPan.then (QPan.inBlock (QPan.then (QPan.then (QPan.inBlock (QPan.then put_panic_bodyPost)))))))))) (by kernel_rfl) (by kernel_rfl) (show Ext w3 w3 from (Ext.refl _)) (fun _ => by kernel_rfl) ?_
      refine anyM_take hT271 15 65535 (some 34) (.int .i64 (((byt b i) / (128 / 2 ^ t) : Nat) : Int)) (QPan.inBlock (QPan.then (QPan.then (QPan.inBlock (QPan.then (QPan.inBlock (QPan.then (QPan.then (QPan.inBlock (QPan.then put_panic_bodyPost)))))))))) (by kernel_rfl) (by kernel_rfl) (show Ext w3 w3 from (Ext.refl _)) (yld_val (s := (do eqGuard .quo 3 (.tmp 32) (.tmp 33) (.int .i64 ((byt b i : Nat) : Int)) (.int .i64 ((128 / 2 ^ t : Nat) : Int)); binOp .quo 3 (.int .i64 ((byt b i : Nat) : Int)) (.int .i64 ((128 / 2 ^ t : Nat) : Int)))) (by kernel_rfl) (fun w' hC => run_quo (hct) (fun z hz => wrapS rfl (by omega) (by omega)))) ?_
      refine anyM_take hT271 16 131071 (some 35) (.int .i64 (((byt a i) / (128 / 2 ^ t) + ((byt b i) / (128 / 2 ^ t)) : Nat) : Int)) (QPan.inBlock (QPan.then (QPan.then (QPan.inBlock (QPan.then (QPan.inBlock (QPan.then (QPan.then (QPan.inBlock (QPan.then put_panic_bodyPost)))))))))) (by kernel_rfl) (by kernel_rfl) (show Ext w3 w3 from (Ext.refl _)) (yld_valAt (u := (.int .i64 (IntKind.i64.wrap ((((byt a i) / (128 / 2 ^ t) : Nat) : Int) + (((byt b i) / (128 / 2 ^ t) : Nat) : Int))))) (fun _ => by kernel_rfl) (congrArg (Value.int .i64) (wrapS (by omega) (by omega) (by omega))) ⟨_, (show Ext w3 w3 from (Ext.refl _))⟩) ?_
      refine anyM_take hT271 17 262143 (some 36) (.int .i64 ((((byt a i) / (128 / 2 ^ t) + ((byt b i) / (128 / 2 ^ t))) % 2 : Nat) : Int)) (QPan.inBlock (QPan.then (QPan.then (QPan.inBlock (QPan.then (QPan.inBlock (QPan.then (QPan.then (QPan.inBlock (QPan.then put_panic_bodyPost)))))))))) (by kernel_rfl) (by kernel_rfl) (show Ext w3 w3 from (Ext.refl _)) (yld_valAt (u := (.int .i64 ((((byt a i) / (128 / 2 ^ t) + ((byt b i) / (128 / 2 ^ t)) : Nat) : Int).tmod ((2 : Nat) : Int)))) (fun _ => by kernel_rfl) (congrArg (Value.int .i64) (tmodN _ _)) ⟨_, (show Ext w3 w3 from (Ext.refl _))⟩) ?_
      refine anyM_take hT271 18 524287 (some 37) (.int .i64 (((byt a i ^^^ byt b i) / 2 ^ (8 - (t + 1)) : Nat) : Int)) (QPan.inBlock (QPan.then (QPan.then (QPan.inBlock (QPan.then (QPan.inBlock (QPan.then (QPan.then (QPan.inBlock (QPan.then put_panic_bodyPost)))))))))) (by kernel_rfl) (by kernel_rfl) (show Ext w3 w3 from (Ext.refl _)) (yld_valAt (u := (.int .i64 (IntKind.i64.wrap (((2 * ((byt a i ^^^ byt b i) / 2 ^ (8 - t)) : Nat) : Int) + ((((byt a i) / (128 / 2 ^ t) + ((byt b i) / (128 / 2 ^ t))) % 2 : Nat) : Int))))) (fun _ => by kernel_rfl) (congrArg (Value.int .i64) (wrapS (by rw [hst]; simp) (by omega) (by omega))) ⟨_, (show Ext w3 w3 from (Ext.refl _))⟩) ?_
      refine anyM_run hT271 19 1048575 [(7, (.int .i64 (((byt a i ^^^ byt b i) / 2 ^ (8 - (t + 1)) : Nat) : Int)))] (QPan.inBlock (QPan.then (QPan.then (QPan.inBlock (QPan.then (QPan.inBlock (QPan.then (QPan.then (QPan.inBlock (QPan.then put_panic_bodyPost)))))))))) (by kernel_rfl) (by kernel_rfl) (show Ext w3 w3 from (Ext.refl _)) (fun _ => by kernel_rfl) ?_
      refine anyM_done (by kernel_rfl) ?_
      refine inBlock_normal ?_
      refine then_code ?_
      refine wpC_region ?_
      refine wpF_run 1 [(17, (.int .i64 ((128 / 2 ^ t : Nat) : Int)))] (by kernel_rfl) ?_
      refine wpF_step (op_eqv (d := (some 18)) (.int .i64 (IntKind.i64.wrap (((128 / 2 ^ t : Nat) : Int).tdiv ((2 : Nat) : Int)))) (.int .i64 ((128 / 2 ^ (t + 1) : Nat) : Int)) (by kernel_rfl) (congrArg (Value.int .i64) (wrapS ((tdivN _ _).trans (by rw [Nat.div_div_eq_div_mul, Nat.pow_succ])) (by omega) (by have : 128 / 2 ^ (t + 1) ≤ 128 := Nat.div_le_self _ _; omega))) ?_)
      refine wpF_run 1 [(8, (.int .i64 ((128 / 2 ^ (t + 1) : Nat) : Int)))] (by kernel_rfl) ?_
      refine wpF_end (by kernel_rfl) ?_
      refine then_normal ?_
      refine endR_mk (t + 1) (by kernel_rfl) ?_ ?_
      · exact ⟨by omega, (hEi.trans hEw3)⟩
      · first | omega | (dsimp only; omega)
    · replace hct : t = 8 := by have := of_d_f hct; exact pow_zero_eq ht (by omega)
      subst hct
      refine wpF_end (by kernel_rfl) ?_
      refine then_code ?_
      refine wpC_false (by kernel_rfl) ?_
      refine wpC_exit ?_
      refine then_exit ?_
      refine then_exit ?_
      refine inBlock_exit ?_
      refine then_code ?_
      refine wpC_region ?_
      refine wpF_run 2 [(39, (.int .i64 (((byt a i ^^^ byt b i) / 2 ^ (8 - 8) : Nat) : Int))), (38, (.slice p i cp))] (by kernel_rfl) ?_
      refine wpF_step (op_eqv (d := (some 40)) (.int .u8 (IntKind.u8.wrap (((byt a i ^^^ byt b i) / 2 ^ (8 - 8) : Nat) : Int))) (.int .u8 ((byt a i ^^^ byt b i : Nat) : Int)) (by kernel_rfl) (congrArg (Value.int .u8) ((wrapU rfl rfl).trans (by rw [Nat.sub_self, Nat.pow_zero, Nat.div_one]; exact congrArg Nat.cast (Nat.mod_eq_of_lt (show _ < 2 ^ IntKind.u8.bits from xor_lt256 _ _ (byt_lt _ _) (byt_lt _ _)))))) ?_)
      refine wpF_step (op_new (d := (some 41)) (s := Instr.buildSlice 23 1 #[(0, (.int .u8 ((byt a i ^^^ byt b i : Nat) : Int)))]) (.slice (some ⟨w2.heap.size, 0, none⟩) 1 1) [(.int .u8 ((byt a i ^^^ byt b i : Nat) : Int))] 5 (by kernel_rfl) (by kernel_rfl) ?_)
      intro w4 hBw4 hEw4
      have hzw4 := hEw4.size; have hlw4 := hBw4.lt
      have hSw4 : Bs w2.heap.size (w2.heap.size + 1) w4 (some ⟨w2.heap.size, 0, none⟩) 1 1 [UInt8.ofNat (byt a i ^^^ byt b i)] := Bs.of_blk hBw4 (u8s_sing (xor_lt256 _ _ (byt_lt _ _) (byt_lt _ _))) rfl (Nat.le_refl _) (by decide) (Nat.le_refl _) (Nat.lt_succ_self _)
      refine wpF_step (op_append (d := (some 42)) 23 23 5 1 (.int .u8 0) p i cp (some ⟨w2.heap.size, 0, none⟩) 1 1 (by kernel_rfl) (by kernel_rfl) (by kernel_rfl) (by kernel_rfl) (fun _ => rfl) (((hO.ext hEi)).ext hEw4) hSw4.es (by simp only [maxLen]; omega) (by omega) (by omega) ?_)
      intro a1 c1 w5 hOw5 hCw5
      have hzw5 := hCw5.size
      have hSw5 := hOw5.bs
      refine wpF_run 1 [(5, (.slice a1 (i + 1) c1))] (by kernel_rfl) ?_
      refine wpF_end (by kernel_rfl) ?_
      refine inBlock_normal ?_
      refine then_code ?_
      refine wpC_region ?_
      refine wpF_run 1 [(13, (.int .i64 ((i : Nat) : Int)))] (by kernel_rfl) ?_
      refine wpF_step (op_eqv (d := (some 14)) (.int .i64 (IntKind.i64.wrap (((i : Nat) : Int) + ((1 : Nat) : Int)))) (.int .i64 ((i + 1 : Nat) : Int)) (by kernel_rfl) (congrArg (Value.int .i64) (wrapS (by omega) (by omega) (by omega))) ?_)
      refine wpF_run 1 [(6, (.int .i64 ((i + 1 : Nat) : Int)))] (by kernel_rfl) ?_
      refine wpF_end (by kernel_rfl) ?_
      refine then_normal ?_
      refine endR_mk (i + 1, a1, c1) (by kernel_rfl) ?_ ?_
      · exact ⟨by omega, (xorl_snoc (a := a) (b := b) (i := i) (by omega) (by omega)) ▸ hOw5, (Ext.ownS ((hEl.trans hEi).trans hEw4) hCw5 (fun k hs hk => by have hn := (((hO.ext hEi)).ext hEw4).ne hs; omega))⟩
      · first | omega | (dsimp only; omega)
  · replace hc12 : ¬ (i < n_a) := by have := of_d_f hc12; omega
    refine wpF_end (by kernel_rfl) ?_
    refine then_code ?_
    refine wpC_false (by kernel_rfl) ?_
    refine wpC_exit ?_
    refine then_exit ?_
    refine then_exit ?_
    refine inBlock_exit ?_
    refine then_code ?_
    refine wpC_seq ?_
    refine wpC_region ?_
    refine wpF_run 2 [(4, (.slice p i cp)), (43, (.slice p i cp))] (by kernel_rfl) ?_
    refine wpF_end (by kernel_rfl) ?_
    refine then_code ?_
    refine wpC_ret ?_
    refine body_ret1 (by kernel_rfl) (show resVal Try.prog 44 _ _ (.tmp 4) (.slice p i cp) by (show _ = _; kernel_rfl)) ?_
    have hin : i = n_a := by omega
    have hxl := xorl_length (a := a) (b := b) (by omega)
    rw [hin, List.take_of_length_le (by omega)] at hO
    rw [hin]
    exact ⟨_, _, rfl, hO.es, hEl⟩

theorem c_Join {lo_ls hi_ls : Nat} {a_ls : Option Addr} {n_ls c_ls : Nat} {v_ls : List Value} {ls : List (List UInt8)}  (w : World) (h_ls : Ps lo_ls hi_ls w a_ls n_ls c_ls v_ls ls) (hp0 : sumLen ls ≤ 1099511627776) :
    Calls Try.prog 22 #[(.slice a_ls n_ls c_ls)] w (Ret fun r w' => ∃ a0, r = (.slice (some ⟨a0, 0, none⟩) (sumLen ls) (sumLen ls)) ∧ w.heap.size ≤ a0 ∧ Blk w' a0 (u8s ls.flatten) 5 ∧ sumLen ls = (ls.flatten).length ∧ sumLen ls ≤ 1099511627776 ∧ Ext w w') := by
  refine calls_of (n := 38) (σ := [(0, (.slice a_ls n_ls c_ls))]) Try.func22 rfl (by kernel_rfl) ?_
  replace h_ls := h_ls.now; have hle_ls := h_ls.le
  refine wpC_seq ?_
  refine wpC_region ?_
  refine wpF_run 1 [(2, (.slice none 0 0))] (by kernel_rfl) ?_
  refine wpF_end (by kernel_rfl) ?_
  refine then_code ?_
  refine wpC_seq ?_
  refine wpC_region ?_
  refine wpF_run 1 [(3, (.int .i64 ((0 : Nat) : Int)))] (by kernel_rfl) ?_
  refine wpF_end (by kernel_rfl) ?_
  refine then_code ?_
  refine wpC_seq ?_
  refine wpC_seq ?_
  refine wpC_region ?_
  refine wpF_run 3 [(12, (.int .i64 ((0 : Nat) : Int))), (11, (.int .i64 ((n_ls : Nat) : Int))), (10, (.slice a_ls n_ls c_ls))] (by kernel_rfl) ?_
  refine wpF_end (by kernel_rfl) ?_
  refine then_code ?_
  refine wpC_block ?_
  refine wpC_loop (X := Nat) (fun i => [(3, (.int .i64 ((sumLen (ls.take i) : Nat) : Int))), (12, (.int .i64 ((i : Nat) : Int)))]) [5, 13, 14, 15, 16, 17, 18, 19, 20] (fun i w1 => w = w1 ∧ i ≤ n_ls) (fun i => n_ls - i) 0 (by rw [List.take_zero]; kernel_rfl) ⟨rfl, by omega⟩ ?_
  rintro i dw1 w1 ⟨rfl, hi⟩
  have hlen := h_ls.len_eq
  have hsl := sumLen_le ls i
  have hsl1 := sumLen_le ls (i + 1)
  refine wpC_seq ?_
  refine wpC_region ?_
  refine wpF_step (op_split (d := (some 13)) (decide (((i : Nat) : Int) < ((n_ls : Nat) : Int))) (by kernel_rfl) (fun hc13 => ?_) (fun hc13 => ?_))
  · replace hc13 : i < n_ls := by have := of_d_t hc13; omega
    have hst := sumLen_take (ls := ls) (i := i) (by omega)
    refine wpF_end (by kernel_rfl) ?_
    refine then_code ?_
    refine wpC_seq ?_
    refine wpC_true (by kernel_rfl) ?_
    refine wpC_skip ?_
    refine then_code ?_
    refine wpC_seq ?_
    refine wpC_block ?_
    refine wpC_seq ?_
    refine wpC_region ?_
    obtain ⟨b1, o1, rfl⟩ := h_ls.addr (by omega)
    refine wpF_step (op_v (d := (some 14)) (s := Instr.indexAt 84 (.slice (some ⟨b1, o1, none⟩) n_ls c_ls) (.int .i64 ((i : Nat) : Int))) (v := (.pointer (some ⟨b1, o1 + i * 1, none⟩))) (by kernel_rfl) (rn_ixs (E := 23) (sz := 1) (by kernel_rfl) (by kernel_rfl) (by omega)) ?_)
    obtain ⟨a1, n1, cp1, hP1, hS1⟩ := (h_ls).cell (i := i) (by omega)
    have hlehS1 := hS1.le; have hlnhS1 := hS1.len_eq
    refine wpF_step (op_v (d := (some 15)) (s := Instr.loadAt 23 (.pointer (some ⟨b1, o1 + i * 1, none⟩))) (v := (.slice a1 n1 cp1)) (by kernel_rfl) (rn_ld (by kernel_rfl) hP1) ?_)
    refine wpF_run 1 [(5, (.slice a1 n1 cp1))] (by kernel_rfl) ?_
    refine wpF_end (by kernel_rfl) ?_
    refine then_code ?_
    refine wpC_region ?_
    refine wpF_run 3 [(18, (.int .i64 ((n1 : Nat) : Int))), (17, (.slice a1 n1 cp1)), (16, (.int .i64 ((sumLen (ls.take i) : Nat) : Int)))] (by kernel_rfl) ?_
    refine wpF_step (op_eqv (d := (some 19)) (.int .i64 (IntKind.i64.wrap (((sumLen (ls.take i) : Nat) : Int) + ((n1 : Nat) : Int)))) (.int .i64 ((sumLen (ls.take (i + 1)) : Nat) : Int)) (by kernel_rfl) (congrArg (Value.int .i64) (wrapS (by omega) (by omega) (by omega))) ?_)
    refine wpF_run 1 [(3, (.int .i64 ((sumLen (ls.take (i + 1)) : Nat) : Int)))] (by kernel_rfl) ?_
    refine wpF_end (by kernel_rfl) ?_
    refine inBlock_normal ?_
    refine then_code ?_
    refine wpC_region ?_
    refine wpF_step (op_eqv (d := (some 20)) (.int .i64 (IntKind.i64.wrap (((i : Nat) : Int) + ((1 : Nat) : Int)))) (.int .i64 ((i + 1 : Nat) : Int)) (by kernel_rfl) (congrArg (Value.int .i64) (wrapS (by omega) (by omega) (by omega))) ?_)
    refine wpF_run 1 [(12, (.int .i64 ((i + 1 : Nat) : Int)))] (by kernel_rfl) ?_
    refine wpF_end (by kernel_rfl) ?_
    refine then_normal ?_
    refine endR_mk (i + 1) (by kernel_rfl) ?_ ?_
    · exact ⟨rfl, by omega⟩
    · first | omega | (dsimp only; omega)
  · replace hc13 : ¬ (i < n_ls) := by have := of_d_f hc13; omega
    have hfin1 : ls.take i = ls := List.take_of_length_le (by omega)
    rw [hfin1]
    refine wpF_end (by kernel_rfl) ?_
    refine then_code ?_
    refine wpC_seq ?_
    refine wpC_false (by kernel_rfl) ?_
    refine wpC_exit ?_
    refine then_exit ?_
    refine then_exit ?_
    refine inBlock_exit ?_
    refine then_code ?_
    refine wpC_seq ?_
    refine wpC_region ?_
    refine wpF_run 1 [(21, (.int .i64 ((sumLen (ls) : Nat) : Int)))] (by kernel_rfl) ?_
    refine wpF_step (op_make (d := (some 22)) 23 5 1 1 (sumLen (ls)) .i64 .i64 (.int .u8 ((0 : Nat) : Int)) (by kernel_rfl) (by kernel_rfl) (by kernel_rfl) (by omega) (by omega) ?_)
    rw [show (Value.cells (.int .u8 ((0 : Nat) : Int))) = #[(.int .u8 ((0 : Nat) : Int))] from rfl, Nat.mul_one, madeCells_one]
    intro w2 hBw2 hEw2
    have hzw2 := hEw2.size; have hlw2 := hBw2.lt
    have hSw2 : Bs w.heap.size (w.heap.size + 1) w2 (some ⟨w.heap.size, 0, none⟩) (sumLen (ls)) (sumLen (ls)) (List.replicate (sumLen (ls)) 0) := Bs.of_blk hBw2 (u8s_zero _) (by simp) (Nat.le_refl _) (by simp only [maxLen]; omega) (Nat.le_refl _) (Nat.lt_succ_self _)
    refine wpF_run 1 [(6, (.slice (some ⟨w.heap.size, 0, none⟩) (sumLen (ls)) (sumLen (ls))))] (by kernel_rfl) ?_
    refine wpF_end (by kernel_rfl) ?_
    refine then_code ?_
    refine wpC_seq ?_
    refine wpC_region ?_
    refine wpF_run 1 [(7, (.int .i64 ((0 : Nat) : Int)))] (by kernel_rfl) ?_
    refine wpF_end (by kernel_rfl) ?_
    refine then_code ?_
    refine wpC_seq ?_
    refine wpC_seq ?_
    refine wpC_region ?_
    refine wpF_run 3 [(25, (.int .i64 ((0 : Nat) : Int))), (24, (.int .i64 ((n_ls : Nat) : Int))), (23, (.slice a_ls n_ls c_ls))] (by kernel_rfl) ?_
    refine wpF_end (by kernel_rfl) ?_
    refine then_code ?_
    refine wpC_block ?_
    refine wpC_loop (X := Nat) (fun jj => [(7, (.int .i64 ((sumLen (ls.take jj) : Nat) : Int))), (25, (.int .i64 ((jj : Nat) : Int)))]) [9, 26, 27, 28, 29, 30, 31, 32, 33, 34, 35, 36] (fun jj w3 => jj ≤ n_ls ∧ Blk w3 w.heap.size (u8s ((ls.take jj).flatten ++ List.replicate (sumLen ls - sumLen (ls.take jj)) 0)) 5 ∧ Ext w w3) (fun jj => n_ls - jj) 0 (by rw [List.take_zero]; kernel_rfl) ⟨by omega, (by rw [List.take_zero, show sumLen ls - sumLen [] = sumLen ls from rfl, List.flatten_nil, List.nil_append, ← u8s_zero]; exact hBw2), hEw2⟩ ?_
    rintro jj dw3 w3 ⟨hi, hBl, hEl⟩
    have hzl := hEl.size; have hll := hBl.lt
    have hlen := h_ls.len_eq
    have hsl := sumLen_le ls jj
    have hsl1 := sumLen_le ls (jj + 1)
    refine wpC_seq ?_
    refine wpC_region ?_
    refine wpF_step (op_split (d := (some 26)) (decide (((jj : Nat) : Int) < ((n_ls : Nat) : Int))) (by kernel_rfl) (fun hc26 => ?_) (fun hc26 => ?_))
    · replace hc26 : jj < n_ls := by have := of_d_t hc26; omega
      have hst := sumLen_take (ls := ls) (i := jj) (by omega)
      refine wpF_end (by kernel_rfl) ?_
      refine then_code ?_
      refine wpC_seq ?_
      refine wpC_true (by kernel_rfl) ?_
      refine wpC_skip ?_
      refine then_code ?_
      refine wpC_seq ?_
      refine wpC_block ?_
      refine wpC_seq ?_
      refine wpC_region ?_
      obtain ⟨b2, o2, rfl⟩ := h_ls.addr (by omega)
      refine wpF_step (op_v (d := (some 27)) (s := Instr.indexAt 84 (.slice (some ⟨b2, o2, none⟩) n_ls c_ls) (.int .i64 ((jj : Nat) : Int))) (v := (.pointer (some ⟨b2, o2 + jj * 1, none⟩))) (by kernel_rfl) (rn_ixs (E := 23) (sz := 1) (by kernel_rfl) (by kernel_rfl) (by omega)) ?_)
      obtain ⟨a2, n2, cp2, hP2, hS2⟩ := ((h_ls.ext hEl)).cell (i := jj) (by omega)
      have hlehS2 := hS2.le; have hlnhS2 := hS2.len_eq
      refine wpF_step (op_v (d := (some 28)) (s := Instr.loadAt 23 (.pointer (some ⟨b2, o2 + jj * 1, none⟩))) (v := (.slice a2 n2 cp2)) (by kernel_rfl) (rn_ld (by kernel_rfl) hP2) ?_)
      refine wpF_run 1 [(9, (.slice a2 n2 cp2))] (by kernel_rfl) ?_
      refine wpF_end (by kernel_rfl) ?_
      refine then_code ?_
      refine wpC_region ?_
      refine wpF_run 3 [(31, (.int .i64 ((sumLen (ls.take jj) : Nat) : Int))), (30, (.slice (some ⟨w.heap.size, 0, none⟩) (sumLen (ls)) (sumLen (ls)))), (29, (.int .i64 ((sumLen (ls.take jj) : Nat) : Int)))] (by kernel_rfl) ?_
      obtain ⟨ad, hRd, hAd⟩ := hBl.slice (P := Try.prog) (T := 23) (E := 5) (lo' := some (.int .i64 ((sumLen (ls.take jj) : Nat) : Int))) (hi' := none) (mx := none) (len := sumLen (ls)) (cap := sumLen (ls)) (x := sumLen (ls.take jj)) (r := sumLen (ls)) (m := sumLen (ls)) (by kernel_rfl) (by kernel_rfl) (.inr ⟨_, rfl⟩) (.inl ⟨rfl, rfl⟩) (.inl ⟨rfl, rfl⟩) (by simp) (by omega) (by omega) (by omega)
      refine wpF_step (op_v (d := (some 32)) (s := Instr.sliceAt 23 (.slice (some ⟨w.heap.size, 0, none⟩) (sumLen (ls)) (sumLen (ls))) (some (.int .i64 ((sumLen (ls.take jj) : Nat) : Int))) none none) (v := (.slice ad (sumLen ls - sumLen (ls.take jj)) (sumLen ls - sumLen (ls.take jj)))) (by kernel_rfl) (hRd _) ?_)
      refine wpF_run 1 [(33, (.slice a2 n2 cp2))] (by kernel_rfl) ?_
      refine wpF_step (op_copy (d := (some 34)) 23 23 3 5 w.heap.size (sumLen (ls.take jj)) ad (sumLen ls - sumLen (ls.take jj)) (sumLen ls - sumLen (ls.take jj)) a2 n2 cp2 (by kernel_rfl) (by kernel_rfl) (by kernel_rfl) hBl (fun h => hAd (by omega)) (by rw [u8s_length, List.length_append, sumLen_flatten, List.length_replicate]; omega) hS2.es (fun _ => rfl) ?_)
      intro w4 hBw4 hCw4
      have hzw4 := hCw4.size
      rw [show setFrom (u8s ((ls.take jj).flatten ++ List.replicate (sumLen ls - sumLen (ls.take jj)) 0)) (sumLen (ls.take jj)) (((ls.getD jj []).take (min n2 (sumLen ls - sumLen (ls.take jj)))).map u8v) = u8s ((ls.take (jj + 1)).flatten ++ List.replicate (sumLen ls - sumLen (ls.take (jj + 1))) 0) from by rw [flatten_take (by omega), sumLen_take (by omega), show min n2 (sumLen ls - sumLen (ls.take jj)) = (ls.getD jj []).length from by omega]; exact join_step _ _ _ _ (sumLen_flatten _).symm (by omega)] at hBw4
      refine wpF_step (op_eqv (d := (some 35)) (.int .i64 (IntKind.i64.wrap (((sumLen (ls.take jj) : Nat) : Int) + ((min n2 (sumLen ls - sumLen (ls.take jj)) : Nat) : Int)))) (.int .i64 ((sumLen (ls.take (jj + 1)) : Nat) : Int)) (by kernel_rfl) (congrArg (Value.int .i64) (wrapS (by omega) (by omega) (by omega))) ?_)
      refine wpF_run 1 [(7, (.int .i64 ((sumLen (ls.take (jj + 1)) : Nat) : Int)))] (by kernel_rfl) ?_
      refine wpF_end (by kernel_rfl) ?_
      refine inBlock_normal ?_
      refine then_code ?_
      refine wpC_region ?_
      refine wpF_step (op_eqv (d := (some 36)) (.int .i64 (IntKind.i64.wrap (((jj : Nat) : Int) + ((1 : Nat) : Int)))) (.int .i64 ((jj + 1 : Nat) : Int)) (by kernel_rfl) (congrArg (Value.int .i64) (wrapS (by omega) (by omega) (by omega))) ?_)
      refine wpF_run 1 [(25, (.int .i64 ((jj + 1 : Nat) : Int)))] (by kernel_rfl) ?_
      refine wpF_end (by kernel_rfl) ?_
      refine then_normal ?_
      refine endR_mk (jj + 1) (by kernel_rfl) ?_ ?_
      · exact ⟨by omega, hBw4, (Ext.own hEl hCw4 (by omega))⟩
      · first | omega | (dsimp only; omega)
    · replace hc26 : ¬ (jj < n_ls) := by have := of_d_f hc26; omega
      refine wpF_end (by kernel_rfl) ?_
      refine then_code ?_
      refine wpC_seq ?_
      refine wpC_false (by kernel_rfl) ?_
      refine wpC_exit ?_
      refine then_exit ?_
      refine then_exit ?_
      refine inBlock_exit ?_
      refine then_code ?_
      refine wpC_seq ?_
      refine wpC_region ?_
      refine wpF_run 2 [(2, (.slice (some ⟨w.heap.size, 0, none⟩) (sumLen (ls)) (sumLen (ls)))), (37, (.slice (some ⟨w.heap.size, 0, none⟩) (sumLen (ls)) (sumLen (ls))))] (by kernel_rfl) ?_
      refine wpF_end (by kernel_rfl) ?_
      refine then_code ?_
      refine wpC_ret ?_
      refine body_ret1 (by kernel_rfl) (show resVal Try.prog 38 _ _ (.tmp 2) (.slice (some ⟨w.heap.size, 0, none⟩) (sumLen (ls)) (sumLen (ls))) by (show _ = _; kernel_rfl)) ?_
      have hfin : ls.take jj = ls := List.take_of_length_le (by omega)
      rw [hfin] at hBl
      rw [Nat.sub_self, List.replicate_zero, List.append_nil] at hBl
      exact ⟨_, rfl, Nat.le_refl _, hBl, (sumLen_flatten ls).symm, hp0, hEl⟩

end Go.Proofs.Ytigeaknjhnichaa
