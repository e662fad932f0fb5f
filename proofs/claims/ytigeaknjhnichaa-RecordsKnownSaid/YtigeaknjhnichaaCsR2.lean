/- CsR2: what each function does, by its own code. No condition beyond those of each statement. -/
import Derived.Test.YtigeaknjhnichaaCsR1
namespace Go.Proofs.Ytigeaknjhnichaa
open Go Go.RowKit Go.Cs
set_option maxRecDepth 100000
set_option linter.all false
set_option linter.unusedVariables false

theorem c_next {b lo hi : Nat} {a : Option Addr} {n cp : Nat} {l : List UInt8} (k : Nat) (w : World) (hb : Blk w b [(.slice a n cp)] 95) (hl : Bs lo hi w a n cp l) (hlo : hi ≤ b) (hk : k ≤ n) :
    Calls Try.prog 58 #[(.pointer (some ⟨b, 0, none⟩)), (.int .i64 ((k : Nat) : Int))] w (Ret fun r w' => ∃ a1 a2, r = (.slice a1 k cp) ∧ Bs lo hi w' a1 k cp (l.take k) ∧ Blk w' b [(.slice a2 (n - k) (cp - k))] 95 ∧ Bs lo hi w' a2 (n - k) (cp - k) (l.drop k) ∧ Chg (· = b) w w') := by
  refine calls_of (n := 22) (σ := [(0, (.pointer (some ⟨b, 0, none⟩))), (1, (.int .i64 ((k : Nat) : Int)))]) Try.func58 rfl (by kernel_rfl) ?_
  have hle := hl.le
  refine wpC_seq ?_
  refine wpC_region ?_
  refine wpF_run 1 [(4, (.slice none 0 0))] (by kernel_rfl) ?_
  refine wpF_end (by kernel_rfl) ?_
  refine then_code ?_
  refine wpC_seq ?_
  refine wpC_region ?_
  refine wpF_run 3 [(8, (.pointer (some ⟨b, 0, none⟩))), (7, (.pointer (some ⟨b, 0, none⟩))), (6, (.pointer (some ⟨b, 0, none⟩)))] (by kernel_rfl) ?_
  refine wpF_step (op_v (d := (some 9)) (s := Instr.loadAt 23 (.pointer (some ⟨b, 0, none⟩))) (v := (.slice a n cp)) (by kernel_rfl) (rn_ld (by kernel_rfl) (hb.cell rfl)) ?_)
  refine wpF_run 1 [(10, (.int .i64 ((k : Nat) : Int)))] (by kernel_rfl) ?_
  obtain ⟨a1, hR1, hS1⟩ := hl.slice (P := Try.prog) (T := 23) (E := 5) (xl := none) (xh := (some (.int .i64 ((k : Nat) : Int)))) (mx := none) (x := 0) (r := k) (m := cp) (by kernel_rfl) (by kernel_rfl) (.inl ⟨rfl, rfl⟩) (.inr ⟨_, rfl⟩) (.inl ⟨rfl, rfl⟩) (by simp) (by omega) (by omega) (by omega) (by omega)
  refine wpF_step (op_v (d := (some 11)) (s := Instr.sliceAt 23 (.slice a n cp) none (some (.int .i64 ((k : Nat) : Int))) none) (v := (.slice a1 (k - 0) (cp - 0))) (by kernel_rfl) (hR1 _) ?_)
  refine wpF_run 1 [(5, (.slice a1 (k - 0) (cp - 0)))] (by kernel_rfl) ?_
  refine wpF_end (by kernel_rfl) ?_
  refine then_code ?_
  refine wpC_seq ?_
  refine wpC_region ?_
  refine wpF_run 4 [(15, (.pointer (some ⟨b, 0, none⟩))), (14, (.pointer (some ⟨b, 0, none⟩))), (13, (.pointer (some ⟨b, 0, none⟩))), (12, (.pointer (some ⟨b, 0, none⟩)))] (by kernel_rfl) ?_
  refine wpF_step (op_v (d := (some 16)) (s := Instr.loadAt 23 (.pointer (some ⟨b, 0, none⟩))) (v := (.slice a n cp)) (by kernel_rfl) (rn_ld (by kernel_rfl) (hb.cell rfl)) ?_)
  refine wpF_run 1 [(17, (.int .i64 ((k : Nat) : Int)))] (by kernel_rfl) ?_
  obtain ⟨a2, hR2, hS2⟩ := hl.slice (P := Try.prog) (T := 23) (E := 5) (xl := (some (.int .i64 ((k : Nat) : Int)))) (xh := none) (mx := none) (x := k) (r := n) (m := cp) (by kernel_rfl) (by kernel_rfl) (.inr ⟨_, rfl⟩) (.inl ⟨rfl, rfl⟩) (.inl ⟨rfl, rfl⟩) (by simp) (by omega) (by omega) (by omega) (by omega)
  refine wpF_step (op_v (d := (some 18)) (s := Instr.sliceAt 23 (.slice a n cp) (some (.int .i64 ((k : Nat) : Int))) none none) (v := (.slice a2 (n - k) (cp - k))) (by kernel_rfl) (hR2 _) ?_)
  refine wpF_run 2 [(20, (.pointer (some ⟨b, 0, none⟩))), (19, (.pointer (some ⟨b, 0, none⟩)))] (by kernel_rfl) ?_
  refine wpF_step (op_store (d := none) 23 b 0 95 (.slice a2 (n - k) (cp - k)) ([(.slice a n cp)]) ([(.slice a2 (n - k) (cp - k))]) (by kernel_rfl) hb rfl (by kernel_rfl) (by first | decide | (simp; done) | (simp; omega)) (by simp [Value.oneCell']) ?_)
  intro w1 hBw1 hCw1
  have hzw1 := hCw1.size
  rw [show setFrom ([(.slice a n cp)]) 0 ([(.slice a2 (n - k) (cp - k))]) = [(.slice a2 (n - k) (cp - k))] from rfl] at hBw1
  refine wpF_end (by kernel_rfl) ?_
  refine then_code ?_
  refine wpC_seq ?_
  refine wpC_region ?_
  refine wpF_run 2 [(4, (.slice a1 (k - 0) (cp - 0))), (21, (.slice a1 (k - 0) (cp - 0)))] (by kernel_rfl) ?_
  refine wpF_end (by kernel_rfl) ?_
  refine then_code ?_
  refine wpC_ret ?_
  refine body_ret1 (by kernel_rfl) (show resVal Try.prog 22 _ _ (.tmp 4) (.slice a1 (k - 0) (cp - 0)) by (show _ = _; kernel_rfl)) ?_
  have hP := ((hS1).chg hCw1 (fun k h1 h2 hs => by have h : k = _ := hs; omega))
  have hQ := ((hS2).chg hCw1 (fun k h1 h2 hs => by have h : k = _ := hs; omega))
  rw [List.take_of_length_le (by have := hl.len_eq; simp only [List.length_drop]; omega)] at hQ
  exact ⟨_, _, rfl, hP, hBw1, hQ, hCw1⟩

theorem c_readShort {lo_l hi_l : Nat} {a_l : Option Addr} {n_l c_l : Nat} {l : List UInt8} (sz : Nat)  (w : World) (h_l : Bs lo_l hi_l w a_l n_l c_l l) (hp0 : n_l < sz) :
    Calls Try.prog 55 #[(.slice a_l n_l c_l), (.int .i64 ((sz : Nat) : Int))] w (Ret fun r w' => r = (.tuple #[.nilFunc, (.int .i64 ((6 : Nat) : Int))]) ∧ Ext w w') := by
  refine calls_of (n := 20) (σ := [(0, (.slice a_l n_l c_l)), (1, (.int .i64 ((sz : Nat) : Int)))]) Try.func55 rfl (by kernel_rfl) ?_
  replace h_l := h_l.now; have hle_l := h_l.le
  refine wpC_seq ?_
  refine wpC_region ?_
  refine wpF_run 2 [(5, (.int .i64 ((0 : Nat) : Int))), (4, .nilFunc)] (by kernel_rfl) ?_
  refine wpF_end (by kernel_rfl) ?_
  refine then_code ?_
  refine wpC_seq ?_
  refine wpC_block ?_
  refine wpC_seq ?_
  refine wpC_region ?_
  refine wpF_run 3 [(10, (.int .i64 ((sz : Nat) : Int))), (9, (.int .i64 ((n_l : Nat) : Int))), (8, (.slice a_l n_l c_l))] (by kernel_rfl) ?_
  refine wpF_step (op_eqv (d := (some 11)) (.bool (decide (((n_l : Nat) : Int) < ((sz : Nat) : Int)))) (.bool true) (by kernel_rfl) (congrArg Value.bool (cmpDT (by omega))) ?_)
  refine wpF_run 1 [(7, (.bool true))] (by kernel_rfl) ?_
  refine wpF_end (by kernel_rfl) ?_
  refine then_code ?_
  refine wpC_true (by kernel_rfl) ?_
  refine wpC_seq ?_
  refine wpC_region ?_
  refine wpF_run 2 [(5, (.int .i64 ((6 : Nat) : Int))), (4, .nilFunc)] (by kernel_rfl) ?_
  refine wpF_end (by kernel_rfl) ?_
  refine then_code ?_
  refine wpC_ret ?_
  refine inBlock_ret ?_
  refine then_ret ?_
  refine body_ret2 (by kernel_rfl) (show resVal Try.prog 20 _ _ (.tmp 4) .nilFunc by (show _ = _; kernel_rfl)) (show resVal Try.prog 20 _ _ (.tmp 5) (.int .i64 ((6 : Nat) : Int)) by (show _ = _; kernel_rfl)) ?_
  exact ⟨rfl, (Ext.refl _)⟩

theorem c_readLong {lo_l hi_l : Nat} {a_l : Option Addr} {n_l c_l : Nat} {l : List UInt8} (sz : Nat)  (w : World) (h_l : Bs lo_l hi_l w a_l n_l c_l l) (hp0 : sz < n_l) :
    Calls Try.prog 55 #[(.slice a_l n_l c_l), (.int .i64 ((sz : Nat) : Int))] w (Ret fun r w' => r = (.tuple #[.nilFunc, (.int .i64 ((5 : Nat) : Int))]) ∧ Ext w w') := by
  refine calls_of (n := 20) (σ := [(0, (.slice a_l n_l c_l)), (1, (.int .i64 ((sz : Nat) : Int)))]) Try.func55 rfl (by kernel_rfl) ?_
  replace h_l := h_l.now; have hle_l := h_l.le
  refine wpC_seq ?_
  refine wpC_region ?_
  refine wpF_run 2 [(5, (.int .i64 ((0 : Nat) : Int))), (4, .nilFunc)] (by kernel_rfl) ?_
  refine wpF_end (by kernel_rfl) ?_
  refine then_code ?_
  refine wpC_seq ?_
  refine wpC_block ?_
  refine wpC_seq ?_
  refine wpC_region ?_
  refine wpF_run 3 [(10, (.int .i64 ((sz : Nat) : Int))), (9, (.int .i64 ((n_l : Nat) : Int))), (8, (.slice a_l n_l c_l))] (by kernel_rfl) ?_
  refine wpF_step (op_eqv (d := (some 11)) (.bool (decide (((n_l : Nat) : Int) < ((sz : Nat) : Int)))) (.bool false) (by kernel_rfl) (congrArg Value.bool (cmpDF (by omega))) ?_)
  refine wpF_run 1 [(7, (.bool false))] (by kernel_rfl) ?_
  refine wpF_end (by kernel_rfl) ?_
  refine then_code ?_
  refine wpC_false (by kernel_rfl) ?_
  refine wpC_seq ?_
  refine wpC_region ?_
  refine wpF_run 3 [(15, (.int .i64 ((sz : Nat) : Int))), (14, (.int .i64 ((n_l : Nat) : Int))), (13, (.slice a_l n_l c_l))] (by kernel_rfl) ?_
  refine wpF_step (op_eqv (d := (some 16)) (.bool (decide (((n_l : Nat) : Int) > ((sz : Nat) : Int)))) (.bool true) (by kernel_rfl) (congrArg Value.bool (cmpDT (by omega))) ?_)
  refine wpF_run 1 [(12, (.bool true))] (by kernel_rfl) ?_
  refine wpF_end (by kernel_rfl) ?_
  refine then_code ?_
  refine wpC_true (by kernel_rfl) ?_
  refine wpC_seq ?_
  refine wpC_region ?_
  refine wpF_run 2 [(5, (.int .i64 ((5 : Nat) : Int))), (4, .nilFunc)] (by kernel_rfl) ?_
  refine wpF_end (by kernel_rfl) ?_
  refine then_code ?_
  refine wpC_ret ?_
  refine inBlock_ret ?_
  refine then_ret ?_
  refine body_ret2 (by kernel_rfl) (show resVal Try.prog 20 _ _ (.tmp 4) .nilFunc by (show _ = _; kernel_rfl)) (show resVal Try.prog 20 _ _ (.tmp 5) (.int .i64 ((5 : Nat) : Int)) by (show _ = _; kernel_rfl)) ?_
  exact ⟨rfl, (Ext.refl _)⟩

theorem c_read {lo_l hi_l : Nat} {a_l : Option Addr} {n_l c_l : Nat} {l : List UInt8} (sz : Nat)  (w : World) (h_l : Bs lo_l hi_l w a_l n_l c_l l) (hp0 : n_l = sz) :
    Calls Try.prog 55 #[(.slice a_l n_l c_l), (.int .i64 ((sz : Nat) : Int))] w (Ret fun r w' => ∃ a0, r = (.tuple #[(.func (.func 58) #[(.pointer (some ⟨a0, 0, none⟩))] #[]), (.int .i64 ((0 : Nat) : Int))]) ∧ w.heap.size ≤ a0 ∧ Blk w' a0 [(.slice a_l n_l c_l)] 95 ∧ Ext w w') := by
  refine calls_of (n := 20) (σ := [(0, (.slice a_l n_l c_l)), (1, (.int .i64 ((sz : Nat) : Int)))]) Try.func55 rfl (by kernel_rfl) ?_
  replace h_l := h_l.now; have hle_l := h_l.le
  refine wpC_seq ?_
  refine wpC_region ?_
  refine wpF_run 2 [(5, (.int .i64 ((0 : Nat) : Int))), (4, .nilFunc)] (by kernel_rfl) ?_
  refine wpF_end (by kernel_rfl) ?_
  refine then_code ?_
  refine wpC_seq ?_
  refine wpC_block ?_
  refine wpC_seq ?_
  refine wpC_region ?_
  refine wpF_run 3 [(10, (.int .i64 ((sz : Nat) : Int))), (9, (.int .i64 ((n_l : Nat) : Int))), (8, (.slice a_l n_l c_l))] (by kernel_rfl) ?_
  refine wpF_step (op_eqv (d := (some 11)) (.bool (decide (((n_l : Nat) : Int) < ((sz : Nat) : Int)))) (.bool false) (by kernel_rfl) (congrArg Value.bool (cmpDF (by omega))) ?_)
  refine wpF_run 1 [(7, (.bool false))] (by kernel_rfl) ?_
  refine wpF_end (by kernel_rfl) ?_
  refine then_code ?_
  refine wpC_false (by kernel_rfl) ?_
  refine wpC_seq ?_
  refine wpC_region ?_
  refine wpF_run 3 [(15, (.int .i64 ((sz : Nat) : Int))), (14, (.int .i64 ((n_l : Nat) : Int))), (13, (.slice a_l n_l c_l))] (by kernel_rfl) ?_
  refine wpF_step (op_eqv (d := (some 16)) (.bool (decide (((n_l : Nat) : Int) > ((sz : Nat) : Int)))) (.bool false) (by kernel_rfl) (congrArg Value.bool (cmpDF (by omega))) ?_)
  refine wpF_run 1 [(12, (.bool false))] (by kernel_rfl) ?_
  refine wpF_end (by kernel_rfl) ?_
  refine then_code ?_
  refine wpC_false (by kernel_rfl) ?_
  refine wpC_skip ?_
  refine inBlock_normal ?_
  refine then_code ?_
  refine wpC_seq ?_
  refine wpC_region ?_
  refine wpF_run 2 [(18, (.agg #[(.slice a_l n_l c_l)])), (17, (.slice a_l n_l c_l))] (by kernel_rfl) ?_
  refine wpF_step (op_new (d := (some 6)) (s := Instr.alloc 95 true (.tuple #[])) (.pointer (some ⟨w.heap.size, 0, none⟩)) ([(.slice none 0 0)]) 95 (by kernel_rfl) (by kernel_rfl) ?_)
  intro w1 hBw1 hEw1
  have hzw1 := hEw1.size; have hlw1 := hBw1.lt
  refine wpF_step (op_store (d := none) 95 w.heap.size 0 95 (.agg #[(.slice a_l n_l c_l)]) ([(.slice none 0 0)]) ([(.slice a_l n_l c_l)]) (by kernel_rfl) hBw1 rfl (by kernel_rfl) (by first | decide | (simp; done) | (simp; omega)) (by simp [Value.oneCell']) ?_)
  intro w2 hBw2 hCw2
  have hzw2 := hCw2.size
  rw [setFrom_all _ _ (by kernel_rfl)] at hBw2
  refine wpF_end (by kernel_rfl) ?_
  refine then_code ?_
  refine wpC_seq ?_
  refine wpC_region ?_
  refine wpF_run 3 [(5, (.int .i64 ((0 : Nat) : Int))), (4, (.func (.func 58) #[(.pointer (some ⟨w.heap.size, 0, none⟩))] #[])), (19, (.func (.func 58) #[(.pointer (some ⟨w.heap.size, 0, none⟩))] #[]))] (by kernel_rfl) ?_
  refine wpF_end (by kernel_rfl) ?_
  refine then_code ?_
  refine wpC_ret ?_
  refine body_ret2 (by kernel_rfl) (show resVal Try.prog 20 _ _ (.tmp 4) (.func (.func 58) #[(.pointer (some ⟨w.heap.size, 0, none⟩))] #[]) by (show _ = _; kernel_rfl)) (show resVal Try.prog 20 _ _ (.tmp 5) (.int .i64 ((0 : Nat) : Int)) by (show _ = _; kernel_rfl)) ?_
  exact ⟨_, rfl, by omega, hBw2, (Ext.own hEw1 hCw2 (by omega))⟩

theorem c_nonceGet {lo_l hi_l : Nat} {a_l : Option Addr} {n_l c_l : Nat} {l : List UInt8}  (w : World) (h_l : Bs lo_l hi_l w a_l n_l c_l l) (hp0 : n_l = 12) :
    Calls Try.prog 56 #[(.slice a_l n_l c_l)] w (Ret fun r w' => r = (.tuple #[(.agg (nonC (Non.of l)).toArray), (.int .i64 ((0 : Nat) : Int))]) ∧ Ext w w') := by
  refine calls_of (n := 33) (σ := [(0, (.slice a_l n_l c_l))]) Try.func56 rfl (by kernel_rfl) ?_
  replace h_l := h_l.now; have hle_l := h_l.le
  refine wpC_seq ?_
  refine wpC_region ?_
  refine wpF_step (op_new (d := (some 2)) (s := Instr.alloc 48 true (.tuple #[])) (.pointer (some ⟨w.heap.size, 0, none⟩)) (nonC Non.zero) 48 (by kernel_rfl) (by kernel_rfl) ?_)
  intro w1 hBw1 hEw1
  have hzw1 := hEw1.size; have hlw1 := hBw1.lt
  refine wpF_run 1 [(3, (.int .i64 ((0 : Nat) : Int)))] (by kernel_rfl) ?_
  refine wpF_end (by kernel_rfl) ?_
  refine then_code ?_
  refine wpC_seq ?_
  refine wpC_block ?_
  refine wpC_seq ?_
  refine wpC_region ?_
  refine wpF_run 2 [(10, (.int .i64 ((n_l : Nat) : Int))), (9, (.slice a_l n_l c_l))] (by kernel_rfl) ?_
  refine wpF_step (op_eqv (d := (some 11)) (.bool (decide (((n_l : Nat) : Int) < ((12 : Nat) : Int)))) (.bool false) (by kernel_rfl) (congrArg Value.bool (cmpDF (by omega))) ?_)
  refine wpF_run 1 [(8, (.bool false))] (by kernel_rfl) ?_
  refine wpF_end (by kernel_rfl) ?_
  refine then_code ?_
  refine wpC_false (by kernel_rfl) ?_
  refine wpC_seq ?_
  refine wpC_region ?_
  refine wpF_run 2 [(15, (.int .i64 ((n_l : Nat) : Int))), (14, (.slice a_l n_l c_l))] (by kernel_rfl) ?_
  refine wpF_step (op_eqv (d := (some 16)) (.bool (decide (((n_l : Nat) : Int) > ((12 : Nat) : Int)))) (.bool false) (by kernel_rfl) (congrArg Value.bool (cmpDF (by omega))) ?_)
  refine wpF_run 1 [(13, (.bool false))] (by kernel_rfl) ?_
  refine wpF_end (by kernel_rfl) ?_
  refine then_code ?_
  refine wpC_false (by kernel_rfl) ?_
  refine wpC_skip ?_
  refine inBlock_normal ?_
  refine then_code ?_
  refine wpC_seq ?_
  refine wpC_region ?_
  refine wpF_run 1 [(19, (.slice a_l n_l c_l))] (by kernel_rfl) ?_
  obtain ⟨a1, hR1, hS1⟩ := (h_l.ext hEw1).slice (P := Try.prog) (T := 23) (E := 5) (xl := none) (xh := (some (.int .i64 ((4 : Nat) : Int)))) (mx := none) (x := 0) (r := 4) (m := c_l) (by kernel_rfl) (by kernel_rfl) (.inl ⟨rfl, rfl⟩) (.inr ⟨_, rfl⟩) (.inl ⟨rfl, rfl⟩) (by simp) (by omega) (by omega) (by omega) (by omega)
  refine wpF_step (op_v (d := (some 20)) (s := Instr.sliceAt 23 (.slice a_l n_l c_l) none (some (.int .i64 ((4 : Nat) : Int))) none) (v := (.slice a1 (4 - 0) (c_l - 0))) (by kernel_rfl) (hR1 _) ?_)
  refine wpF_step (op_callAt (d := (some 21)) (by kernel_rfl) (c_Get32 _ hS1) ?_)
  rintro _ _ ⟨rfl, rfl⟩
  rw [show getV ((l.drop 0).take (4 - 0)) 4 = getV (l.take 4) 4 from rfl]
  refine wpF_run 5 [(5, (.int .i64 ((getE ((l.drop 0).take (4 - 0)) 4 : Nat) : Int))), (4, (.int .u32 ((getV (l.take 4) 4 : Nat) : Int))), (23, (.int .i64 ((getE ((l.drop 0).take (4 - 0)) 4 : Nat) : Int))), (22, (.int .u32 ((getV (l.take 4) 4 : Nat) : Int))), (18, (.tuple #[(.int .u32 ((getV (l.take 4) 4 : Nat) : Int)), (.int .i64 ((getE ((l.drop 0).take (4 - 0)) 4 : Nat) : Int))]))] (by kernel_rfl) ?_
  refine wpF_end (by kernel_rfl) ?_
  refine then_code ?_
  refine wpC_seq ?_
  refine wpC_region ?_
  refine wpF_run 1 [(25, (.slice a_l n_l c_l))] (by kernel_rfl) ?_
  obtain ⟨a2, hR2, hS2⟩ := (h_l.ext hEw1).slice (P := Try.prog) (T := 23) (E := 5) (xl := (some (.int .i64 ((4 : Nat) : Int)))) (xh := none) (mx := none) (x := 4) (r := n_l) (m := c_l) (by kernel_rfl) (by kernel_rfl) (.inr ⟨_, rfl⟩) (.inl ⟨rfl, rfl⟩) (.inl ⟨rfl, rfl⟩) (by simp) (by omega) (by omega) (by omega) (by omega)
  refine wpF_step (op_v (d := (some 26)) (s := Instr.sliceAt 23 (.slice a_l n_l c_l) (some (.int .i64 ((4 : Nat) : Int))) none none) (v := (.slice a2 (n_l - 4) (c_l - 4))) (by kernel_rfl) (hR2 _) ?_)
  refine wpF_step (op_callAt (d := (some 27)) (by kernel_rfl) (c_Get64 _ hS2) ?_)
  rintro _ _ ⟨rfl, rfl⟩
  rw [show getV ((l.drop 4).take (n_l - 4)) 8 = getV (l.drop 4) 8 from by rw [List.take_of_length_le (by have := h_l.len_eq; simp; omega)]]
  refine wpF_run 5 [(7, (.int .i64 ((getE ((l.drop 4).take (n_l - 4)) 8 : Nat) : Int))), (6, (.int .u64 ((getV (l.drop 4) 8 : Nat) : Int))), (29, (.int .i64 ((getE ((l.drop 4).take (n_l - 4)) 8 : Nat) : Int))), (28, (.int .u64 ((getV (l.drop 4) 8 : Nat) : Int))), (24, (.tuple #[(.int .u64 ((getV (l.drop 4) 8 : Nat) : Int)), (.int .i64 ((getE ((l.drop 4).take (n_l - 4)) 8 : Nat) : Int))]))] (by kernel_rfl) ?_
  refine wpF_end (by kernel_rfl) ?_
  refine then_code ?_
  refine wpC_seq ?_
  refine wpC_region ?_
  refine wpF_run 3 [(32, (.agg (nonC ⟨getV (l.take 4) 4, getV (l.drop 4) 8, getV_lt _ 4, getV_lt _ 8⟩).toArray)), (31, (.int .u64 ((getV (l.drop 4) 8 : Nat) : Int))), (30, (.int .u32 ((getV (l.take 4) 4 : Nat) : Int)))] (by kernel_rfl) ?_
  refine wpF_step (op_store (d := none) 48 w.heap.size 0 48 (.agg (nonC ⟨getV (l.take 4) 4, getV (l.drop 4) 8, getV_lt _ 4, getV_lt _ 8⟩).toArray) (nonC Non.zero) (nonC ⟨getV (l.take 4) 4, getV (l.drop 4) 8, getV_lt _ 4, getV_lt _ 8⟩) (by kernel_rfl) hBw1 rfl (by rw [nonC_len]; kernel_rfl) (by simp) (nonC_one _) ?_)
  intro w2 hBw2 hCw2
  have hzw2 := hCw2.size
  rw [setFrom_all _ _ (by simp)] at hBw2
  refine wpF_run 1 [(3, (.int .i64 ((0 : Nat) : Int)))] (by kernel_rfl) ?_
  refine wpF_end (by kernel_rfl) ?_
  refine then_code ?_
  refine wpC_ret ?_
  refine body_ret2 (by kernel_rfl) (show resVal Try.prog 33 _ _ (.cell 2 48) (.agg (nonC ⟨getV (l.take 4) 4, getV (l.drop 4) 8, getV_lt _ 4, getV_lt _ 8⟩).toArray) from ⟨⟨w.heap.size, 0, none⟩, (by kernel_rfl), run_loadVar_agg (T := 48) (vs := nonC ⟨getV (l.take 4) 4, getV (l.drop 4) 8, getV_lt _ 4, getV_lt _ 8⟩) (by kernel_rfl) (by rw [nonC_len]; kernel_rfl) (hBw2).all⟩) (show resVal Try.prog 33 _ _ (.tmp 3) (.int .i64 ((0 : Nat) : Int)) by (show _ = _; kernel_rfl)) ?_
  exact ⟨rfl, (Ext.own hEw1 hCw2 (by omega))⟩

end Go.Proofs.Ytigeaknjhnichaa
