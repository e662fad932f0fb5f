/- CsR2: what each function does, by its own code. No condition beyond those of each statement. -/
import Derived.Test.YtpcbhalagllhnaaDoorCsR1
namespace Go.Proofs.YtpcbhalagllhnaaDoor
open Go Go.RowKit Go.Cs
set_option maxRecDepth 100000
set_option linter.all false
set_option linter.unusedVariables false

theorem c_next {b lo hi : Nat} {a : Option Addr} {n cp : Nat} {l : List UInt8} (k : Nat) (w : World) (hb : Blk w b [(.slice a n cp)] 136) (hl : Bs lo hi w a n cp l) (hlo : hi ≤ b) (hk : k ≤ n) :
    Calls Tryd.prog 74 #[(vP b 0), (vI k)] w (Ret fun r w' => ∃ a1 a2, r = (.slice a1 k cp) ∧ Bs lo hi w' a1 k cp (l.take k) ∧ Blk w' b [(.slice a2 (n - k) (cp - k))] 136 ∧ Bs lo hi w' a2 (n - k) (cp - k) (l.drop k) ∧ Chg (· = b) w w') := by
  refine calls_of (n := 22) (σ := [(0, (vP b 0)), (1, (vI k))]) Tryd.func74 rfl ?_
  have hle := hl.le
  refine wpC_seq (wpC_region (wpF_run 1 [(4, (.slice none 0 0))] (wpF_end (then_code (wpC_seq (wpC_region (wpF_run 3 [(8, (vP b 0)), (7, (vP b 0)), (6, (vP b 0))] (wpF_step (op_v (some 9) (Instr.loadAt 44 (vP b 0)) (.slice a n cp) (rn_ld (hb.cell rfl)) ?_)))))))))
  refine wpF_run 1 [(10, (vI k))] ?_
  obtain ⟨a1, hR1, hS1⟩ := hl.slice Tryd.prog 44 5 0 k cp none (some (vI k)) none
  refine wpF_step (op_v (some 11) (Instr.sliceAt 44 (.slice a n cp) none (some (vI k)) none) (.slice a1 (k - 0) (cp - 0)) (hR1 _) ?_)
  refine wpF_run 1 [(5, (.slice a1 (k - 0) (cp - 0)))] (wpF_end (then_code (wpC_seq (wpC_region (wpF_run 4 [(15, (vP b 0)), (14, (vP b 0)), (13, (vP b 0)), (12, (vP b 0))] (wpF_step (op_v (some 16) (Instr.loadAt 44 (vP b 0)) (.slice a n cp) (rn_ld (hb.cell rfl)) ?_)))))))
  refine wpF_run 1 [(17, (vI k))] ?_
  obtain ⟨a2, hR2, hS2⟩ := hl.slice Tryd.prog 44 5 k n cp (some (vI k)) none none
  refine wpF_step (op_v (some 18) (Instr.sliceAt 44 (.slice a n cp) (some (vI k)) none none) (.slice a2 (n - k) (cp - k)) (hR2 _) ?_)
  refine wpF_run 2 [(20, (vP b 0)), (19, (vP b 0))] (wpF_step (op_store1 44 b 0 136 (.slice a2 (n - k) (cp - k)) ([(.slice a n cp)]) hb (by first | decide | (simp; done) | (simp; omega)) ?_))
  intro w1 hBw1 hCw1
  have hzw1 := hCw1.size
  rw [show (([(.slice a n cp)]).set 0 (.slice a2 (n - k) (cp - k)) : List Value) = [(.slice a2 (n - k) (cp - k))] from rfl] at hBw1
  refine wpF_end (then_code (wpC_seq (wpC_region (wpF_run 2 [(4, (.slice a1 (k - 0) (cp - 0))), (21, (.slice a1 (k - 0) (cp - 0)))] (wpF_end (then_code (wpC_ret (body_rets (.slice a1 (k - 0) (cp - 0)) ?_))))))))
  have hP := ((hS1).chg hCw1 (fun k h1 h2 hs => by have h : k = _ := hs; omega))
  have hQ := ((hS2).chg hCw1 (fun k h1 h2 hs => by have h : k = _ := hs; omega))
  rw [List.take_of_length_le (by have := hl.len_eq; simp only [List.length_drop]; omega)] at hQ
  exact ⟨_, _, rfl, hP, hBw1, hQ, hCw1⟩

theorem c_readShort {lo_l hi_l : Nat} {a_l : Option Addr} {n_l c_l : Nat} {l : List UInt8} (sz : Nat)  (w : World) (h_l : Bs lo_l hi_l w a_l n_l c_l l) (hp0 : n_l < sz) :
    Calls Tryd.prog 63 #[(.slice a_l n_l c_l), (vI sz)] w (Ret fun r w' => r = (.tuple #[.nilFunc, (vI 6)]) ∧ Ext w w') := by
  refine calls_of (n := 20) (σ := [(0, (.slice a_l n_l c_l)), (1, (vI sz))]) Tryd.func63 rfl ?_
  replace h_l := h_l.now; have hle_l := h_l.le
  refine wpC_seq (wpC_region (wpF_run 2 [(5, (vI 0)), (4, .nilFunc)] (wpF_end (then_code (wpC_seq (wpC_block (wpC_seq (wpC_region (wpF_run 3 [(10, (vI sz)), (9, (vI n_l)), (8, (.slice a_l n_l c_l))] ?_)))))))))
  refine wpF_step (op_b (some 11) (decide (((n_l : Nat) : Int) < ((sz : Nat) : Int))) true (cmpDT (by omega)) ?_)
  refine wpF_run 1 [(7, vT)] (wpF_end (then_code (wpC_true (wpC_seq (wpC_region (wpF_run 2 [(5, (vI 6)), (4, .nilFunc)] (wpF_end (then_code (wpC_ret ?_)))))))))
  exact inBlock_ret (then_ret (body_rets (.tuple #[.nilFunc, (vI 6)]) (⟨rfl, (Ext.refl _)⟩)))

theorem c_readLong {lo_l hi_l : Nat} {a_l : Option Addr} {n_l c_l : Nat} {l : List UInt8} (sz : Nat)  (w : World) (h_l : Bs lo_l hi_l w a_l n_l c_l l) (hp0 : sz < n_l) :
    Calls Tryd.prog 63 #[(.slice a_l n_l c_l), (vI sz)] w (Ret fun r w' => r = (.tuple #[.nilFunc, (vI 5)]) ∧ Ext w w') := by
  refine calls_of (n := 20) (σ := [(0, (.slice a_l n_l c_l)), (1, (vI sz))]) Tryd.func63 rfl ?_
  replace h_l := h_l.now; have hle_l := h_l.le
  refine wpC_seq (wpC_region (wpF_run 2 [(5, (vI 0)), (4, .nilFunc)] (wpF_end (then_code (wpC_seq (wpC_block (wpC_seq (wpC_region (wpF_run 3 [(10, (vI sz)), (9, (vI n_l)), (8, (.slice a_l n_l c_l))] ?_)))))))))
  refine wpF_step (op_b (some 11) (decide (((n_l : Nat) : Int) < ((sz : Nat) : Int))) false (cmpDF (by omega)) ?_)
  refine wpF_run 1 [(7, vF)] (wpF_end (then_code (wpC_false (wpC_seq (wpC_region (wpF_run 3 [(15, (vI sz)), (14, (vI n_l)), (13, (.slice a_l n_l c_l))] (wpF_step (op_b (some 16) (decide (((n_l : Nat) : Int) > ((sz : Nat) : Int))) true (cmpDT (by omega)) ?_))))))))
  refine wpF_run 1 [(12, vT)] (wpF_end (then_code (wpC_true (wpC_seq (wpC_region (wpF_run 2 [(5, (vI 5)), (4, .nilFunc)] (wpF_end (then_code (wpC_ret ?_)))))))))
  exact inBlock_ret (then_ret (body_rets (.tuple #[.nilFunc, (vI 5)]) (⟨rfl, (Ext.refl _)⟩)))

theorem c_read {lo_l hi_l : Nat} {a_l : Option Addr} {n_l c_l : Nat} {l : List UInt8} (sz : Nat)  (w : World) (h_l : Bs lo_l hi_l w a_l n_l c_l l) (hp0 : n_l = sz) :
    Calls Tryd.prog 63 #[(.slice a_l n_l c_l), (vI sz)] w (Ret fun r w' => ∃ a0, r = (.tuple #[(.func (.func 74) #[(vP a0 0)] #[]), (vI 0)]) ∧ w.heap.size ≤ a0 ∧ Blk w' a0 [(.slice a_l n_l c_l)] 136 ∧ Ext w w') := by
  refine calls_of (n := 20) (σ := [(0, (.slice a_l n_l c_l)), (1, (vI sz))]) Tryd.func63 rfl ?_
  replace h_l := h_l.now; have hle_l := h_l.le
  refine wpC_seq (wpC_region (wpF_run 2 [(5, (vI 0)), (4, .nilFunc)] (wpF_end (then_code (wpC_seq (wpC_block (wpC_seq (wpC_region (wpF_run 3 [(10, (vI sz)), (9, (vI n_l)), (8, (.slice a_l n_l c_l))] ?_)))))))))
  refine wpF_step (op_b (some 11) (decide (((n_l : Nat) : Int) < ((sz : Nat) : Int))) false (cmpDF (by omega)) ?_)
  refine wpF_run 1 [(7, vF)] (wpF_end (then_code (wpC_false (wpC_seq (wpC_region (wpF_run 3 [(15, (vI sz)), (14, (vI n_l)), (13, (.slice a_l n_l c_l))] (wpF_step (op_b (some 16) (decide (((n_l : Nat) : Int) > ((sz : Nat) : Int))) false (cmpDF (by omega)) ?_))))))))
  refine wpF_run 1 [(12, vF)] (wpF_end (then_code (wpC_false (wpC_skip (inBlock_normal (then_code (wpC_seq (wpC_region (wpF_run 2 [(18, (vA [(.slice a_l n_l c_l)])), (17, (.slice a_l n_l c_l))] ?_)))))))))
  refine wpF_step (op_new (some 6) (Instr.alloc 136 true (.tuple #[])) (vP w.heap.size 0) ([(.slice none 0 0)]) 136 ?_)
  intro w1 hBw1 hEw1
  have hzw1 := hEw1.size; have hlw1 := hBw1.lt
  refine wpF_step (op_store 136 w.heap.size 0 136 (vA [(.slice a_l n_l c_l)]) ([(.slice none 0 0)]) ([(.slice a_l n_l c_l)]) hBw1 (by kernel_rfl) (by first | decide | (simp; done) | (simp; omega)) (by simp [Value.oneCell']) ?_)
  intro w2 hBw2 hCw2
  have hzw2 := hCw2.size
  rw [setFrom_all _ _ (by kernel_rfl)] at hBw2
  exact wpF_end (then_code (wpC_seq (wpC_region (wpF_run 3 [(5, (vI 0)), (4, (.func (.func 74) #[(vP w.heap.size 0)] #[])), (19, (.func (.func 74) #[(vP w.heap.size 0)] #[]))] (wpF_end (then_code (wpC_ret (body_rets (.tuple #[(.func (.func 74) #[(vP w.heap.size 0)] #[]), (vI 0)]) (⟨_, rfl, by omega, hBw2, (Ext.own hEw1 hCw2 (by omega))⟩)))))))))

theorem c_nonceGet {lo_l hi_l : Nat} {a_l : Option Addr} {n_l c_l : Nat} {l : List UInt8}  (w : World) (h_l : Bs lo_l hi_l w a_l n_l c_l l) (hp0 : n_l = 12) :
    Calls Tryd.prog 64 #[(.slice a_l n_l c_l)] w (Ret fun r w' => r = (.tuple #[(vA (nonC (Non.of l))), (vI 0)]) ∧ Ext w w') := by
  refine calls_of (n := 33) (σ := [(0, (.slice a_l n_l c_l))]) Tryd.func64 rfl ?_
  replace h_l := h_l.now; have hle_l := h_l.le
  refine wpC_seq (wpC_region (wpF_step (op_new (some 2) (Instr.alloc 31 true (.tuple #[])) (vP w.heap.size 0) (nonC Non.zero) 31 ?_)))
  intro w1 hBw1 hEw1
  have hzw1 := hEw1.size; have hlw1 := hBw1.lt
  refine wpF_run 1 [(3, (vI 0))] (wpF_end (then_code (wpC_seq (wpC_block (wpC_seq (wpC_region (wpF_run 2 [(10, (vI n_l)), (9, (.slice a_l n_l c_l))] (wpF_step (op_b (some 11) (decide (((n_l : Nat) : Int) < ((12 : Nat) : Int))) false (cmpDF (by omega)) ?_)))))))))
  refine wpF_run 1 [(8, vF)] (wpF_end (then_code (wpC_false (wpC_seq (wpC_region (wpF_run 2 [(15, (vI n_l)), (14, (.slice a_l n_l c_l))] (wpF_step (op_b (some 16) (decide (((n_l : Nat) : Int) > ((12 : Nat) : Int))) false (cmpDF (by omega)) ?_))))))))
  refine wpF_run 1 [(13, vF)] (wpF_end (then_code (wpC_false (wpC_skip (inBlock_normal (then_code (wpC_seq (wpC_region (wpF_run 1 [(19, (.slice a_l n_l c_l))] ?_)))))))))
  obtain ⟨a1, hR1, hS1⟩ := (h_l.ext hEw1).slice Tryd.prog 44 5 0 4 c_l none (some (vI 4)) none
  refine wpF_step (op_v (some 20) (Instr.sliceAt 44 (.slice a_l n_l c_l) none (some (vI 4)) none) (.slice a1 (4 - 0) (c_l - 0)) (hR1 _) ?_)
  refine wpF_step (op_call (some 21) (c_Get32 _ hS1) ?_)
  rintro _ _ ⟨rfl, rfl⟩
  rw [show getV ((l.drop 0).take (4 - 0)) 4 = getV (l.take 4) 4 from rfl]
  refine wpF_run 5 [(5, (vI (getE ((l.drop 0).take (4 - 0)) 4))), (4, (vW (getV (l.take 4) 4))), (23, (vI (getE ((l.drop 0).take (4 - 0)) 4))), (22, (vW (getV (l.take 4) 4))), (18, (.tuple #[(vW (getV (l.take 4) 4)), (vI (getE ((l.drop 0).take (4 - 0)) 4))]))] (wpF_end (then_code (wpC_seq (wpC_region (wpF_run 1 [(25, (.slice a_l n_l c_l))] ?_)))))
  obtain ⟨a2, hR2, hS2⟩ := (h_l.ext hEw1).slice Tryd.prog 44 5 4 n_l c_l (some (vI 4)) none none
  refine wpF_step (op_v (some 26) (Instr.sliceAt 44 (.slice a_l n_l c_l) (some (vI 4)) none none) (.slice a2 (n_l - 4) (c_l - 4)) (hR2 _) ?_)
  refine wpF_step (op_call (some 27) (c_Get64 _ hS2) ?_)
  rintro _ _ ⟨rfl, rfl⟩
  rw [show getV ((l.drop 4).take (n_l - 4)) 8 = getV (l.drop 4) 8 from by rw [List.take_of_length_le (by have := h_l.len_eq; simp; omega)]]
  refine wpF_run 5 [(7, (vI (getE ((l.drop 4).take (n_l - 4)) 8))), (6, (vQ (getV (l.drop 4) 8))), (29, (vI (getE ((l.drop 4).take (n_l - 4)) 8))), (28, (vQ (getV (l.drop 4) 8))), (24, (.tuple #[(vQ (getV (l.drop 4) 8)), (vI (getE ((l.drop 4).take (n_l - 4)) 8))]))] (wpF_end (then_code (wpC_seq (wpC_region (wpF_run 3 [(32, (vA (nonC ⟨getV (l.take 4) 4, getV (l.drop 4) 8, getV_lt _ 4, getV_lt _ 8⟩))), (31, (vQ (getV (l.drop 4) 8))), (30, (vW (getV (l.take 4) 4)))] (wpF_step (op_store 31 w.heap.size 0 31 (vA (nonC ⟨getV (l.take 4) 4, getV (l.drop 4) 8, getV_lt _ 4, getV_lt _ 8⟩)) (nonC Non.zero) (nonC ⟨getV (l.take 4) 4, getV (l.drop 4) 8, getV_lt _ 4, getV_lt _ 8⟩) hBw1 (by rw [nonC_len]; kernel_rfl) (by simp) (nonC_one _) ?_)))))))
  intro w2 hBw2 hCw2
  have hzw2 := hCw2.size
  rw [setFrom_all _ _ (by simp)] at hBw2
  exact wpF_run 1 [(3, (vI 0))] (wpF_end (then_code (wpC_ret (body_ret2 (show resVal Tryd.prog 33 _ _ (.cell 2 31) (vA (nonC ⟨getV (l.take 4) 4, getV (l.drop 4) 8, getV_lt _ 4, getV_lt _ 8⟩)) from ⟨⟨w.heap.size, 0, none⟩, (by kernel_rfl), run_loadVar_agg (T := 31) (vs := nonC ⟨getV (l.take 4) 4, getV (l.drop 4) 8, getV_lt _ 4, getV_lt _ 8⟩) (hBw2).all (by rw [nonC_len]; kernel_rfl)⟩) (show resVal Tryd.prog 33 _ _ (.tmp 3) (vI 0) by (show _ = _; kernel_rfl)) (⟨rfl, (Ext.own hEw1 hCw2 (by omega))⟩)))))

end Go.Proofs.YtpcbhalagllhnaaDoor
