/- CsC3: what each function does, by its own code. No condition beyond those of each statement. -/
import Derived.Test.YthjplefmfjkhfaaDoorCsC2
import Derived.Test.YthjplefmfjkhfaaDoorCsCel2
import Derived.Test.YthjplefmfjkhfaaDoorCsM
namespace Go.Proofs.YthjplefmfjkhfaaDoor
open Go Go.RowKit Go.Cs
set_option maxRecDepth 100000
set_option linter.all false
set_option linter.unusedVariables false

theorem i_steps {bb lo hi n c : Nat} {a : Option Addr} {l : List Cel} (B lp : Nat) (U : Nat → Prop) (J Jx : Nat → World → Prop) (w : World) (hB1 : Blk w bb [.slice a n c] 51) (hc : Ms celC 34 lo hi w a n c l) (hU : ∀ b, (B ≤ b ∨ U b) → b ≠ bb ∧ ¬ (lo ≤ b ∧ b < hi)) (hJ : ∀ k W W', J k W → Ext W W' → J k W') (hY : ∀ k W, k < n - 1 → J k W → Yat Tryd.prog lp [vI (k + 1), vB (fk l k)] W (fun v W' => (v = .bool true ∧ J (k + 1) W' ∧ Chg (fun b => B ≤ b ∨ U b) W W') ∨ (v = .bool false ∧ Chg (fun b => B ≤ b ∨ U b) W W' ∧ Jx k W'))) (h0 : J 0 w) :
    Calls Tryd.prog 39 #[(.func (.yield lp) #[] #[]), (vP bb 0)] w (Ret fun r w' => J (n - 1) w' ∨ ∃ k, k < n - 1 ∧ Jx k w') := by
  refine calls_of (n := 24) (σ := [(0, (.func (.yield lp) #[] #[])), (1, (vP bb 0))]) Tryd.func39 rfl ?_
  have hlen := hc.len_eq
  refine wpC_seq (wpC_region (wpF_run 1 [(3, (vI 1))] (wpF_end (then_code (wpC_block (wpC_loop (X := Nat) (fun k => [(3, (vI (k + 1)))]) [4, 5, 6, 7, 8, 9, 10, 11, 12, 13, 14, 15, 16, 17, 18, 19, 20, 21, 22, 23] (fun k w1 => k ≤ n - 1 ∧ J k w1 ∧ Blk w1 bb [.slice a n c] 51 ∧ Ms celC 34 lo hi w1 a n c l) (fun k => n - k) 0 (by kernel_rfl) ⟨by omega, h0, hB1, hc⟩ ?_))))))
  rintro k dw1 w1 ⟨hk, hJk, hBa, hEc⟩
  have hBlt := hBa.lt
  have hle := hEc.le
  refine wpC_seq (wpC_seq (wpC_region (wpF_run 1 [(4, (vI (k + 1)))] (wpF_step (op_v (some 5) (Instr.loadAt 51 (vP bb 0)) (.slice a n c) (rn_ld (hBa.cell rfl)) ?_)))))
  refine wpF_run 1 [(6, (vI n))] (wpF_step (op_split (some 7) (decide (((k + 1 : Nat) : Int) < ((n : Nat) : Int))) (fun hc7 => ?_) (fun hc7 => ?_)))
  · replace hc7 : k + 1 < n := by have := of_d_t hc7; omega
    refine wpF_end (then_code (wpC_true (wpC_skip (then_code (wpC_seq (wpC_block (wpC_seq (wpC_drawM (Chg (fun j => B ≤ j ∨ U j) w1.drew) 14 [(11, 1, 0), (12, 8, 0), (13, 2, 0), (14, 8, 0), (15, 8192, 8), (16, 20480, 20), (17, 32768, 32), (18, 2, 0), (19, 8, 0), (20, 393216, 384), (21, 524288, 512), (22, 1114112, 1088), (23, 2100224, 2051), (24, 4194304, 4096)] (fun hT30 => ?_)))))))))
    have hEw2 : Ext w1 w1.drew := Ext.drew w1
    generalize w1.drew = w2 at hEw2 ⊢
    have hzw2 := hEw2.size
    refine anyM_run (hw := show Chg (fun j => B ≤ j ∨ U j) w2 w2 from (Chg.refl (fun j => B ≤ j ∨ U j) w2)) hT30 [(0, 10, (.func (.yield lp) #[] #[])), (1, 11, (vI (k + 1)))] 2 3 (anyM_take (hw := show Chg (fun j => B ≤ j ∨ U j) w2 w2 from (Chg.refl (fun j => B ≤ j ∨ U j) w2)) hT30 2 7 (some 12) (.slice a n c) (yld_val (Instr.loadAt 51 (vP bb 0)) (fun w' hC => rn_ld (((hBa.ext hEw2).chg hC (fun hs => by have hu := hU _ hs; omega)).cell rfl))) (anyM_run (hw := show Chg (fun j => B ≤ j ∨ U j) w2 w2 from (Chg.refl (fun j => B ≤ j ∨ U j) w2)) hT30 [(3, 13, (vI (k + 1)))] 1 15 (anyM_take (hw := show Chg (fun j => B ≤ j ∨ U j) w2 w2 from (Chg.refl (fun j => B ≤ j ∨ U j) w2)) hT30 4 31 (some 14) (vI k) (yld_in .i64 (IntKind.i64.wrap (((k + 1 : Nat) : Int) - ((1 : Nat) : Int))) (wrapS (by omega) (by omega) (by omega))) ?_)))
    obtain ⟨b1, o1, rfl⟩ := hEc.addr (by omega) (by decide)
    refine anyM_take (hw := show Chg (fun j => B ≤ j ∨ U j) w2 w2 from (Chg.refl (fun j => B ≤ j ∨ U j) w2)) hT30 5 63 (some 15) (vP b1 (o1 + k * 34)) (yld_val (Instr.indexAt 51 (.slice (pA b1 o1) n c) (vI k)) (fun w' hC => rn_ixs (E := 30) (sz := 34) (by omega))) (anyM_take (hw := show Chg (fun j => B ≤ j ∨ U j) w2 w2 from (Chg.refl (fun j => B ≤ j ∨ U j) w2)) hT30 6 127 (some 16) (vA (celC (l.getD k Cel.zero))) (yld_val (Instr.loadAt 30 (vP b1 (o1 + k * 34))) (fun w' hC => rn_lda (vs := celC (l.getD k Cel.zero)) (((hEc.ext hEw2).chg hC (fun k h1 h2 hs => by have hu := hU _ hs; omega)).at Cel.zero (by omega)) (by rw [celC_len]; kernel_rfl))) (anyM_take (hw := show Chg (fun j => B ≤ j ∨ U j) w2 w2 from (Chg.refl (fun j => B ≤ j ∨ U j) w2)) hT30 7 255 (some 17) (.slice (pA b1 o1) n c) (yld_val (Instr.loadAt 51 (vP bb 0)) (fun w' hC => rn_ld (((hBa.ext hEw2).chg hC (fun hs => by have hu := hU _ hs; omega)).cell rfl))) (anyM_run (hw := show Chg (fun j => B ≤ j ∨ U j) w2 w2 from (Chg.refl (fun j => B ≤ j ∨ U j) w2)) hT30 [(8, 18, (vI (k + 1)))] 1 511 (anyM_take (hw := show Chg (fun j => B ≤ j ∨ U j) w2 w2 from (Chg.refl (fun j => B ≤ j ∨ U j) w2)) hT30 9 1023 (some 19) (vP b1 (o1 + (k + 1) * 34)) (yld_val (Instr.indexAt 51 (.slice (pA b1 o1) n c) (vI (k + 1))) (fun w' hC => rn_ixs (E := 30) (sz := 34) (by omega))) ?_))))
    refine anyM_take (hw := show Chg (fun j => B ≤ j ∨ U j) w2 w2 from (Chg.refl (fun j => B ≤ j ∨ U j) w2)) hT30 10 2047 (some 20) (vA (celC (l.getD (k + 1) Cel.zero))) (yld_val (Instr.loadAt 30 (vP b1 (o1 + (k + 1) * 34))) (fun w' hC => rn_lda (vs := celC (l.getD (k + 1) Cel.zero)) (((hEc.ext hEw2).chg hC (fun k h1 h2 hs => by have hu := hU _ hs; omega)).at Cel.zero (by omega)) (by rw [celC_len]; kernel_rfl))) (anyM_one 11 4095 (op_call (some 21) (c_Fol (l.getD k Cel.zero) (l.getD (k + 1) Cel.zero) _) ?_))
    rintro _ w3 ⟨rfl, hEw3⟩
    have hzw3 := hEw3.size
    refine ⟨.inr ((Chg.refl (fun j => B ≤ j ∨ U j) w2).trans hEw3.chg), ?_⟩
    refine anyM_one 12 8191 (op_yield (some 22) lp [(vI (k + 1)), (vB (fol (l.getD k Cel.zero) (l.getD (k + 1) Cel.zero)))] (hY k _ (by omega) (hJ _ _ _ (hJ _ _ _ hJk hEw2) hEw3)) ?_)
    rintro _ w4 (⟨rfl, hJw4, hCw4⟩ | ⟨rfl, hCw4, hXw4⟩)
    · have hzw4 := hCw4.size
      refine ⟨.inr (Chg.then ((Chg.refl (fun j => B ≤ j ∨ U j) w2).trans hEw3.chg) hCw4 (fun k hk hs => hs)), ?_⟩
      refine anyM_run (hw := show Chg (fun j => B ≤ j ∨ U j) w2 w4 from (Chg.then ((Chg.refl (fun j => B ≤ j ∨ U j) w2).trans hEw3.chg) hCw4 (fun k hk hs => hs))) hT30 [(13, 23, vF)] 1 16383 (anyM_done (then_code (wpC_false (wpC_skip (inBlock_normal (then_code (wpC_region (wpF_run 1 [(8, (vI (k + 1)))] (wpF_step (op_in (some 9) .i64 (IntKind.i64.wrap (((k + 1 : Nat) : Int) + ((1 : Nat) : Int))) (k + 1 + 1) (wrapS (by omega) (by omega) (by omega)) ?_))))))))))
      refine wpF_run 1 [(3, (vI (k + 1 + 1)))] (wpF_end (then_normal ?_))
      have hK1 := (((((hBa.ext hEw2)).ext hEw3)).chg hCw4 (fun hs => by have hu := hU _ hs; omega))
      have hK2 := (((((hEc.ext hEw2)).ext hEw3)).chg hCw4 (fun k h1 h2 hs => by have hu := hU _ hs; omega))
      refine endR_mk (k + 1) ?_ ?_
      · exact ⟨by omega, hJw4, hK1, hK2⟩
      · first | omega | (dsimp only; omega)
    · have hzw4 := hCw4.size
      refine ⟨.inr (Chg.then ((Chg.refl (fun j => B ≤ j ∨ U j) w2).trans hEw3.chg) hCw4 (fun k hk hs => hs)), ?_⟩
      refine anyM_run (hw := show Chg (fun j => B ≤ j ∨ U j) w2 w4 from (Chg.then ((Chg.refl (fun j => B ≤ j ∨ U j) w2).trans hEw3.chg) hCw4 (fun k hk hs => hs))) hT30 [(13, 23, vT)] 1 16383 (anyM_done (then_code (wpC_true (wpC_ret (inBlock_ret (then_ret (then_ret (inBlock_ret (body_rets (.tuple #[]) ?_)))))))))
      exact .inr ⟨k, by omega, hXw4⟩
  · replace hc7 : ¬ (k + 1 < n) := by have := of_d_f hc7; omega
    refine wpF_end (then_code (wpC_false (wpC_exit (then_exit (then_exit (inBlock_exit (body_end ?_)))))))
    obtain rfl : k = n - 1 := by omega
    exact .inl hJk

theorem c_steps {lo_l hi_l : Nat} {a_l : Option Addr} {n_l c_l : Nat} {l : List Cel}  (w : World) (h_l : Ms celC 34 lo_l hi_l w a_l n_l c_l l) :
    Calls Tryd.prog 32 #[(.slice a_l n_l c_l)] w (Ret fun r w' => ∃ a0, r = (.func (.func 39) #[] #[(vP a0 0)]) ∧ w.heap.size ≤ a0 ∧ Blk w' a0 [(.slice a_l n_l c_l)] 51 ∧ Ext w w') := by
  refine calls_of (n := 4) (σ := [(0, (.slice a_l n_l c_l))]) Tryd.func32 rfl ?_
  replace h_l := h_l.now; have hle_l := h_l.le
  refine wpC_seq (wpC_region (wpF_step (op_new (some 1) (Instr.box 51 (.slice a_l n_l c_l)) (vP w.heap.size 0) ([(.slice a_l n_l c_l)]) 51 ?_)))
  intro w1 hBw1 hEw1
  have hzw1 := hEw1.size; have hlw1 := hBw1.lt
  refine wpF_run 1 [(2, .nilFunc)] (wpF_end (then_code (wpC_seq (wpC_region (wpF_run 2 [(2, (.func (.func 39) #[] #[(vP w.heap.size 0)])), (3, (.func (.func 39) #[] #[(vP w.heap.size 0)]))] (wpF_end (then_code (wpC_ret (body_rets (.func (.func 39) #[] #[(vP w.heap.size 0)]) ?_)))))))))
  exact ⟨_, rfl, by omega, hBw1, hEw1⟩

theorem c_SndNil (n : Nat) {lo_l hi_l : Nat} {a_l : Option Addr} {n_l c_l : Nat} {l : List Cel}  (w : World) (h_l : Ms celC 34 lo_l hi_l w a_l n_l c_l l) (hp0 : 1 ≤ n) (hp1 : n ≤ 4096) (hp2 : n_l = 0) (hg0 : Gl 0 [vI 45, vI 33] w) (hg1 : Gl 1 (w8C iniA) w) (hg2 : Gl 2 (w64C kA) w) :
    Calls Tryd.prog 20 #[(vI n), (.slice a_l n_l c_l)] w (Ret fun r w' => r = (.tuple #[(vI 0), (vI 16)]) ∧ Ext w w') := by
  refine calls_ofM (n := 35) (σ := [(0, (vI n)), (1, (.slice a_l n_l c_l))]) Tryd.func20 rfl ?_
  replace h_l := h_l.now; have hle_l := h_l.le
  have hgl0 := hg0.lt
  have hgl1 := hg1.lt
  have hgl2 := hg2.lt
  refine wpC_seq (wpC_region (wpF_step (op_new (some 4) (Instr.alloc 3 true (.tuple #[])) (vP w.heap.size 0) ([(vI 0)]) 3 ?_)))
  intro w1 hBw1 hEw1
  have hzw1 := hEw1.size; have hlw1 := hBw1.lt
  refine wpF_step (op_new (some 5) (Instr.alloc 31 true (.tuple #[])) (vP w1.heap.size 0) ([(vI 0)]) 31 ?_)
  intro w2 hBw2 hEw2
  have hzw2 := hEw2.size; have hlw2 := hBw2.lt
  refine wpF_end (then_code (wpC_seq (wpC_region (wpF_run 1 [(10, (vI n))] (wpF_step (op_call (some 11) (c_Fresh n _ (by omega) (by omega) (((hg0.ext hEw1)).ext hEw2) (((hg1.ext hEw1)).ext hEw2) (((hg2.ext hEw1)).ext hEw2)) ?_))))))
  rintro _ w3 ⟨rfl, hEw3⟩
  have hzw3 := hEw3.size
  refine wpF_run 3 [(13, (vI 0)), (12, (vA (celC (freC n)))), (9, (.tuple #[(vA (celC (freC n))), (vI 0)]))] (wpF_step (op_new (some 6) (Instr.alloc 30 true (.tuple #[])) (vP w3.heap.size 0) (celC Cel.zero) 30 ?_))
  intro w4 hBw4 hEw4
  have hzw4 := hEw4.size; have hlw4 := hBw4.lt
  refine wpF_step (op_store 30 w3.heap.size 0 30 (vA (celC (freC n))) (celC Cel.zero) (celC (freC n)) hBw4 (by rw [celC_len]; kernel_rfl) (by first | (simp; done) | (simp; omega)) (celC_one _) ?_)
  intro w5 hBw5 hCw5
  have hzw5 := hCw5.size
  rw [setFrom_all _ _ (by simp)] at hBw5
  have hK1 := (((((hBw2.ext hEw3)).ext hEw4)).chg hCw5 (fun hs => by have h : _ = _ := hs; omega))
  refine wpF_step (op_store1 31 w1.heap.size 0 31 (vI 0) ([(vI 0)]) hK1 (by first | decide | (simp; done) | (simp; omega)) ?_)
  have hK2 := (((((hBw2.ext hEw3)).ext hEw4)).chg hCw5 (fun hs => by have h : _ = _ := hs; omega))
  intro w6 hBw6 hCw6
  have hzw6 := hCw6.size
  replace hBw6 := hBw6.set1
  refine wpF_end (then_code (wpC_seq (wpC_block (wpC_seq (wpC_region (wpF_step (op_v (some 15) (Instr.loadAt 31 (vP w1.heap.size 0)) (vI 0) (rn_ld (hBw6.cell rfl)) ?_)))))))
  refine wpF_step (op_b (some 16) (((0 : Nat) : Int) != ((0 : Nat) : Int)) false (cmpNeF (by omega)) ?_)
  refine wpF_run 1 [(14, vF)] (wpF_end (then_code (wpC_false (wpC_seq (wpC_region (wpF_run 2 [(20, (vI n_l)), (19, (.slice a_l n_l c_l))] (wpF_step (op_b (some 21) (((n_l : Nat) : Int) == ((0 : Nat) : Int)) true (cmpEqT (by omega)) ?_))))))))
  refine wpF_run 1 [(18, vT)] (wpF_end (then_code (wpC_true (wpC_seq (wpC_region ?_)))))
  have hK3 := (((((((((hBw1.ext hEw2)).ext hEw3)).ext hEw4)).chg hCw5 (fun hs => by have h : _ = _ := hs; omega))).chg hCw6 (fun hs => by have h : _ = _ := hs; omega))
  refine wpF_step (op_store1 3 w.heap.size 0 3 (vI 0) ([(vI 0)]) hK3 (by first | decide | (simp; done) | (simp; omega)) ?_)
  have hK4 := (((((((((hBw1.ext hEw2)).ext hEw3)).ext hEw4)).chg hCw5 (fun hs => by have h : _ = _ := hs; omega))).chg hCw6 (fun hs => by have h : _ = _ := hs; omega))
  intro w7 hBw7 hCw7
  have hzw7 := hCw7.size
  replace hBw7 := hBw7.set1
  refine wpF_step (op_store1 31 w1.heap.size 0 31 (vI 16) ([(vI 0)]) ((hBw6).chg hCw7 (fun hs => by have h : _ = _ := hs; omega)) (by first | decide | (simp; done) | (simp; omega)) ?_)
  intro w8 hBw8 hCw8
  have hzw8 := hCw8.size
  replace hBw8 := hBw8.set1
  refine wpF_end (then_code (wpC_ret (inBlock_ret (then_ret (bodyM0_ret (run_res2 (by kernel_rfl) (show resVal Tryd.prog 35 _ _ (.cell 4 3) (vI 0) from ⟨⟨w.heap.size, 0, none⟩, (by kernel_rfl), run_loadVar_cell (T := 3) ((((hBw7).chg hCw8 (fun hs => by have h : _ = _ := hs; omega))).cell rfl)⟩) (show resVal Tryd.prog 35 _ _ (.cell 5 31) (vI 16) from ⟨⟨w1.heap.size, 0, none⟩, (by kernel_rfl), run_loadVar_cell (T := 31) ((hBw8).cell rfl)⟩)) ?_)))))
  have hX1 : Ext w w8 := (Ext.own (Ext.own (Ext.own (Ext.own (((hEw1.trans hEw2).trans hEw3).trans hEw4) hCw5 (by omega)) hCw6 (by omega)) hCw7 (by omega)) hCw8 (by omega))
  exact ⟨rfl, hX1⟩

theorem c_SndDif (n : Nat) {lo_l hi_l : Nat} {a_l : Option Addr} {n_l c_l : Nat} {l : List Cel}  (w : World) (h_l : Ms celC 34 lo_l hi_l w a_l n_l c_l l) (hp0 : 1 ≤ n) (hp1 : n ≤ 4096) (hp2 : 0 < n_l) (hp3 : (cel l 0).eqb (freC n) = false) (hg0 : Gl 0 [vI 45, vI 33] w) (hg1 : Gl 1 (w8C iniA) w) (hg2 : Gl 2 (w64C kA) w) :
    Calls Tryd.prog 20 #[(vI n), (.slice a_l n_l c_l)] w (Ret fun r w' => r = (.tuple #[(vI 0), (vI 1)]) ∧ Ext w w') := by
  refine calls_ofM (n := 35) (σ := [(0, (vI n)), (1, (.slice a_l n_l c_l))]) Tryd.func20 rfl ?_
  replace h_l := h_l.now; have hle_l := h_l.le
  have hgl0 := hg0.lt
  have hgl1 := hg1.lt
  have hgl2 := hg2.lt
  refine wpC_seq (wpC_region (wpF_step (op_new (some 4) (Instr.alloc 3 true (.tuple #[])) (vP w.heap.size 0) ([(vI 0)]) 3 ?_)))
  intro w1 hBw1 hEw1
  have hzw1 := hEw1.size; have hlw1 := hBw1.lt
  refine wpF_step (op_new (some 5) (Instr.alloc 31 true (.tuple #[])) (vP w1.heap.size 0) ([(vI 0)]) 31 ?_)
  intro w2 hBw2 hEw2
  have hzw2 := hEw2.size; have hlw2 := hBw2.lt
  refine wpF_end (then_code (wpC_seq (wpC_region (wpF_run 1 [(10, (vI n))] (wpF_step (op_call (some 11) (c_Fresh n _ (by omega) (by omega) (((hg0.ext hEw1)).ext hEw2) (((hg1.ext hEw1)).ext hEw2) (((hg2.ext hEw1)).ext hEw2)) ?_))))))
  rintro _ w3 ⟨rfl, hEw3⟩
  have hzw3 := hEw3.size
  refine wpF_run 3 [(13, (vI 0)), (12, (vA (celC (freC n)))), (9, (.tuple #[(vA (celC (freC n))), (vI 0)]))] (wpF_step (op_new (some 6) (Instr.alloc 30 true (.tuple #[])) (vP w3.heap.size 0) (celC Cel.zero) 30 ?_))
  intro w4 hBw4 hEw4
  have hzw4 := hEw4.size; have hlw4 := hBw4.lt
  refine wpF_step (op_store 30 w3.heap.size 0 30 (vA (celC (freC n))) (celC Cel.zero) (celC (freC n)) hBw4 (by rw [celC_len]; kernel_rfl) (by first | (simp; done) | (simp; omega)) (celC_one _) ?_)
  intro w5 hBw5 hCw5
  have hzw5 := hCw5.size
  rw [setFrom_all _ _ (by simp)] at hBw5
  have hK1 := (((((hBw2.ext hEw3)).ext hEw4)).chg hCw5 (fun hs => by have h : _ = _ := hs; omega))
  refine wpF_step (op_store1 31 w1.heap.size 0 31 (vI 0) ([(vI 0)]) hK1 (by first | decide | (simp; done) | (simp; omega)) ?_)
  have hK2 := (((((hBw2.ext hEw3)).ext hEw4)).chg hCw5 (fun hs => by have h : _ = _ := hs; omega))
  intro w6 hBw6 hCw6
  have hzw6 := hCw6.size
  replace hBw6 := hBw6.set1
  refine wpF_end (then_code (wpC_seq (wpC_block (wpC_seq (wpC_region (wpF_step (op_v (some 15) (Instr.loadAt 31 (vP w1.heap.size 0)) (vI 0) (rn_ld (hBw6.cell rfl)) ?_)))))))
  refine wpF_step (op_b (some 16) (((0 : Nat) : Int) != ((0 : Nat) : Int)) false (cmpNeF (by omega)) ?_)
  refine wpF_run 1 [(14, vF)] (wpF_end (then_code (wpC_false (wpC_seq (wpC_region (wpF_run 2 [(20, (vI n_l)), (19, (.slice a_l n_l c_l))] (wpF_step (op_b (some 21) (((n_l : Nat) : Int) == ((0 : Nat) : Int)) false (cmpEqF (by omega)) ?_))))))))
  refine wpF_run 1 [(18, vF)] (wpF_end (then_code (wpC_false (wpC_seq (wpC_drawM (Ext w6.drew) 6 [(24, 2, 0), (25, 8388608, 1), (26, 16777216, 2), (27, 64, 0), (28, 100663296, 12), (23, 134217728, 16)] (fun hT206 => ?_))))))
  have hEw7 : Ext w6 w6.drew := Ext.drew w6
  generalize w6.drew = w7 at hEw7 ⊢
  have hzw7 := hEw7.size
  refine anyM_run hT206 [(0, 23, (.slice a_l n_l c_l))] 1 1 ?_
  obtain ⟨b1, o1, rfl⟩ := h_l.addr (by omega) (by decide)
  refine anyM_take hT206 1 3 (some 24) (vP b1 (o1 + 0 * 34)) (yld_val (Instr.indexAt 51 (.slice (pA b1 o1) n_l c_l) (vI 0)) (fun w' hC => rn_ixs (E := 30) (sz := 34) (by omega))) ?_
  have hK3 := (((((((((((((h_l.ext hEw1)).ext hEw2)).ext hEw3)).ext hEw4)).chg hCw5 (fun k h1 h2 hs => by have h : k = _ := hs; omega))).chg hCw6 (fun k h1 h2 hs => by have h : k = _ := hs; omega))).ext hEw7)
  refine anyM_take hT206 2 7 (some 25) (vA (celC (l.getD 0 Cel.zero))) (yld_val (Instr.loadAt 30 (vP b1 (o1 + 0 * 34))) (fun w' hC => rn_lda (vs := celC (l.getD 0 Cel.zero)) ((hK3.ext hC).at Cel.zero (by omega)) (by rw [celC_len]; kernel_rfl))) (anyM_take hT206 3 15 (some 26) (vA (celC (freC n))) (yld_val (Instr.loadAt 30 (vP w3.heap.size 0)) (fun w' hC => rn_lda (vs := celC (freC n)) ((((((hBw5).chg hCw6 (fun hs => by have h : _ = _ := hs; omega))).ext hEw7).ext hC).all) (by rw [celC_len]; kernel_rfl))) (anyM_take hT206 4 31 (some 27) vT (yld_val (bo .neq 30 (.tmp 25) (.tmp 26) (vA (celC (l.getD 0 Cel.zero))) (vA (celC (freC n)))) (fun w' hC => run_neqAgg (r := false) (T := 30) ((run_eq_cel (dd := 9997) (t := 30) (td := 27) (e := 5) (t64 := 28) (l.getD 0 Cel.zero) (freC n)).trans (congrArg (fun b => Result.ok b _) (show ((l.getD 0 Cel.zero).eqb (freC n)) = false from hp3))))) (anyM_run hT206 [(5, 22, vT)] 1 63 (anyM_done (then_code (wpC_true (wpC_seq (wpC_region ?_))))))))
  have hK4 := (((((((((((hBw1.ext hEw2)).ext hEw3)).ext hEw4)).chg hCw5 (fun hs => by have h : _ = _ := hs; omega))).chg hCw6 (fun hs => by have h : _ = _ := hs; omega))).ext hEw7)
  refine wpF_step (op_store1 3 w.heap.size 0 3 (vI 0) ([(vI 0)]) hK4 (by first | decide | (simp; done) | (simp; omega)) ?_)
  have hK5 := (((((((((((hBw1.ext hEw2)).ext hEw3)).ext hEw4)).chg hCw5 (fun hs => by have h : _ = _ := hs; omega))).chg hCw6 (fun hs => by have h : _ = _ := hs; omega))).ext hEw7)
  intro w8 hBw8 hCw8
  have hzw8 := hCw8.size
  replace hBw8 := hBw8.set1
  refine wpF_step (op_store1 31 w1.heap.size 0 31 (vI 1) ([(vI 0)]) (((hBw6.ext hEw7)).chg hCw8 (fun hs => by have h : _ = _ := hs; omega)) (by first | decide | (simp; done) | (simp; omega)) ?_)
  intro w9 hBw9 hCw9
  have hzw9 := hCw9.size
  replace hBw9 := hBw9.set1
  refine wpF_end (then_code (wpC_ret (inBlock_ret (then_ret (bodyM0_ret (run_res2 (by kernel_rfl) (show resVal Tryd.prog 35 _ _ (.cell 4 3) (vI 0) from ⟨⟨w.heap.size, 0, none⟩, (by kernel_rfl), run_loadVar_cell (T := 3) ((((hBw8).chg hCw9 (fun hs => by have h : _ = _ := hs; omega))).cell rfl)⟩) (show resVal Tryd.prog 35 _ _ (.cell 5 31) (vI 1) from ⟨⟨w1.heap.size, 0, none⟩, (by kernel_rfl), run_loadVar_cell (T := 31) ((hBw9).cell rfl)⟩)) ?_)))))
  have hX1 : Ext w w9 := (Ext.own (Ext.own ((Ext.own (Ext.own (((hEw1.trans hEw2).trans hEw3).trans hEw4) hCw5 (by omega)) hCw6 (by omega)).trans hEw7) hCw8 (by omega)) hCw9 (by omega))
  exact ⟨rfl, hX1⟩

theorem c_SndOk (n : Nat) {lo_l hi_l : Nat} {a_l : Option Addr} {n_l c_l : Nat} {l : List Cel}  (w : World) (h_l : Ms celC 34 lo_l hi_l w a_l n_l c_l l) (hp0 : 1 ≤ n) (hp1 : n ≤ 4096) (hp2 : 0 < n_l) (hp3 : (cel l 0).eqb (freC n) = true) (hg0 : Gl 0 [vI 45, vI 33] w) (hg1 : Gl 1 (w8C iniA) w) (hg2 : Gl 2 (w64C kA) w) :
    Calls Tryd.prog 20 #[(vI n), (.slice a_l n_l c_l)] w (Ret fun r w' => r = (.tuple #[(vI (flt l)), (vI (if flt l = 0 then 0 else 13))]) ∧ Ext w w') := by
  refine calls_ofM (n := 35) (σ := [(0, (vI n)), (1, (.slice a_l n_l c_l))]) Tryd.func20 rfl ?_
  replace h_l := h_l.now; have hle_l := h_l.le
  have hgl0 := hg0.lt
  have hgl1 := hg1.lt
  have hgl2 := hg2.lt
  have hlen := h_l.len_eq
  refine wpC_seq (wpC_region (wpF_step (op_new (some 4) (Instr.alloc 3 true (.tuple #[])) (vP w.heap.size 0) ([(vI 0)]) 3 ?_)))
  intro w1 hBw1 hEw1
  have hzw1 := hEw1.size; have hlw1 := hBw1.lt
  refine wpF_step (op_new (some 5) (Instr.alloc 31 true (.tuple #[])) (vP w1.heap.size 0) ([(vI 0)]) 31 ?_)
  intro w2 hBw2 hEw2
  have hzw2 := hEw2.size; have hlw2 := hBw2.lt
  refine wpF_end (then_code (wpC_seq (wpC_region (wpF_run 1 [(10, (vI n))] (wpF_step (op_call (some 11) (c_Fresh n _ (by omega) (by omega) (((hg0.ext hEw1)).ext hEw2) (((hg1.ext hEw1)).ext hEw2) (((hg2.ext hEw1)).ext hEw2)) ?_))))))
  rintro _ w3 ⟨rfl, hEw3⟩
  have hzw3 := hEw3.size
  refine wpF_run 3 [(13, (vI 0)), (12, (vA (celC (freC n)))), (9, (.tuple #[(vA (celC (freC n))), (vI 0)]))] (wpF_step (op_new (some 6) (Instr.alloc 30 true (.tuple #[])) (vP w3.heap.size 0) (celC Cel.zero) 30 ?_))
  intro w4 hBw4 hEw4
  have hzw4 := hEw4.size; have hlw4 := hBw4.lt
  refine wpF_step (op_store 30 w3.heap.size 0 30 (vA (celC (freC n))) (celC Cel.zero) (celC (freC n)) hBw4 (by rw [celC_len]; kernel_rfl) (by first | (simp; done) | (simp; omega)) (celC_one _) ?_)
  intro w5 hBw5 hCw5
  have hzw5 := hCw5.size
  rw [setFrom_all _ _ (by simp)] at hBw5
  have hK1 := (((((hBw2.ext hEw3)).ext hEw4)).chg hCw5 (fun hs => by have h : _ = _ := hs; omega))
  refine wpF_step (op_store1 31 w1.heap.size 0 31 (vI 0) ([(vI 0)]) hK1 (by first | decide | (simp; done) | (simp; omega)) ?_)
  have hK2 := (((((hBw2.ext hEw3)).ext hEw4)).chg hCw5 (fun hs => by have h : _ = _ := hs; omega))
  intro w6 hBw6 hCw6
  have hzw6 := hCw6.size
  replace hBw6 := hBw6.set1
  refine wpF_end (then_code (wpC_seq (wpC_block (wpC_seq (wpC_region (wpF_step (op_v (some 15) (Instr.loadAt 31 (vP w1.heap.size 0)) (vI 0) (rn_ld (hBw6.cell rfl)) ?_)))))))
  refine wpF_step (op_b (some 16) (((0 : Nat) : Int) != ((0 : Nat) : Int)) false (cmpNeF (by omega)) ?_)
  refine wpF_run 1 [(14, vF)] (wpF_end (then_code (wpC_false (wpC_seq (wpC_region (wpF_run 2 [(20, (vI n_l)), (19, (.slice a_l n_l c_l))] (wpF_step (op_b (some 21) (((n_l : Nat) : Int) == ((0 : Nat) : Int)) false (cmpEqF (by omega)) ?_))))))))
  refine wpF_run 1 [(18, vF)] (wpF_end (then_code (wpC_false (wpC_seq (wpC_drawM (Ext w6.drew) 6 [(24, 2, 0), (25, 8388608, 1), (26, 16777216, 2), (27, 64, 0), (28, 100663296, 12), (23, 134217728, 16)] (fun hT262 => ?_))))))
  have hEw7 : Ext w6 w6.drew := Ext.drew w6
  generalize w6.drew = w7 at hEw7 ⊢
  have hzw7 := hEw7.size
  refine anyM_run hT262 [(0, 23, (.slice a_l n_l c_l))] 1 1 ?_
  obtain ⟨b1, o1, rfl⟩ := h_l.addr (by omega) (by decide)
  refine anyM_take hT262 1 3 (some 24) (vP b1 (o1 + 0 * 34)) (yld_val (Instr.indexAt 51 (.slice (pA b1 o1) n_l c_l) (vI 0)) (fun w' hC => rn_ixs (E := 30) (sz := 34) (by omega))) ?_
  have hK3 := (((((((((((((h_l.ext hEw1)).ext hEw2)).ext hEw3)).ext hEw4)).chg hCw5 (fun k h1 h2 hs => by have h : k = _ := hs; omega))).chg hCw6 (fun k h1 h2 hs => by have h : k = _ := hs; omega))).ext hEw7)
  refine anyM_take hT262 2 7 (some 25) (vA (celC (l.getD 0 Cel.zero))) (yld_val (Instr.loadAt 30 (vP b1 (o1 + 0 * 34))) (fun w' hC => rn_lda (vs := celC (l.getD 0 Cel.zero)) ((hK3.ext hC).at Cel.zero (by omega)) (by rw [celC_len]; kernel_rfl))) (anyM_take hT262 3 15 (some 26) (vA (celC (freC n))) (yld_val (Instr.loadAt 30 (vP w3.heap.size 0)) (fun w' hC => rn_lda (vs := celC (freC n)) ((((((hBw5).chg hCw6 (fun hs => by have h : _ = _ := hs; omega))).ext hEw7).ext hC).all) (by rw [celC_len]; kernel_rfl))) (anyM_take hT262 4 31 (some 27) vF (yld_val (bo .neq 30 (.tmp 25) (.tmp 26) (vA (celC (l.getD 0 Cel.zero))) (vA (celC (freC n)))) (fun w' hC => run_neqAgg (r := true) (T := 30) ((run_eq_cel (dd := 9997) (t := 30) (td := 27) (e := 5) (t64 := 28) (l.getD 0 Cel.zero) (freC n)).trans (congrArg (fun b => Result.ok b _) (show ((l.getD 0 Cel.zero).eqb (freC n)) = true from hp3))))) (anyM_run hT262 [(5, 22, vF)] 1 63 (anyM_done (then_code (wpC_false (wpC_skip (inBlock_normal (then_code ?_)))))))))
  refine wpC_seq (wpC_seq (wpC_region (wpF_run 1 [(28, (.slice (pA b1 o1) n_l c_l))] (wpF_step (op_call (some 29) (c_steps _ hK3) ?_)))))
  rintro _ w8 ⟨a1, rfl, hFz2_0, hFz2_1, hEw8⟩
  have hzw8 := hEw8.size
  have hla1 := hFz2_1.lt
  refine wpF_end (then_code (wpC_block ?_))
  have hK4 := (((((((((((((hBw1.ext hEw2)).ext hEw3)).ext hEw4)).chg hCw5 (fun hs => by have h : _ = _ := hs; omega))).chg hCw6 (fun hs => by have h : _ = _ := hs; omega))).ext hEw7)).ext hEw8)
  have hX1 : Ext w w8 := (((Ext.own (Ext.own (((hEw1.trans hEw2).trans hEw3).trans hEw4) hCw5 (by omega)) hCw6 (by omega)).trans hEw7).trans hEw8)
  refine wpC_range [30, 31] 39 [(vP a1 0)] (n_l - 1) (fun k => [(vI (k + 1)), (vB (fk l k))]) (fun b => b = w.heap.size ∨ b = w1.heap.size) (fun b => False) (fun k w' => noF l k ∧ Blk w' w.heap.size [vI 0] 3 ∧ Blk w' w1.heap.size [vI 0] 31 ∧ Ext w w') (fun cc k w' => cc = .ret ∧ noF l k ∧ fk l k = 0 ∧ Blk w' w.heap.size [vI (k + 1)] 3 ∧ Blk w' w1.heap.size [vI 13] 31 ∧ Ext w w') (fun b hb => hb.elim) (fun _ => rfl) (fun k W W' ⟨h1, h2, h3, h4⟩ hb => ⟨h1, h2.book hb, h3.book hb, h4.book hb (by omega)⟩) (fun _ k W W' ⟨hc, h0, h1, h2, h3, h4⟩ hb => ⟨hc, h0, h1, h2.book hb, h3.book hb, h4.book hb (by omega)⟩) (fun k W W' ⟨h1, h2, h3, h4⟩ hc => ⟨h1, h2.ext hc, h3.ext hc, h4.trans hc⟩) (⟨noF_zero l, hK4, (((hBw6.ext hEw7)).ext hEw8), hX1⟩) (fun lp J Jx w1 hE1 hJ hY h0 => i_steps (l := l) w8.heap.size lp _ J Jx w1 (hFz2_1.ext hE1) ((hK3.ext hEw8).ext hE1) (fun b hb => by omega) hJ hY h0) ?_ ?_ ?_
  · rintro lR k w9 hl ⟨hnf, hB4, hB5, hEw⟩ hk
    have hl4 := hB4.lt; have hl5 := hB5.lt
    have hzr := hEw.size
    refine wpC_seq (wpC_region (wpF_run 1 [(7, (vI (k + 1)))] (wpF_end (then_code (wpC_region (wpF_run 1 [(8, (vB (fk l k)))] (wpF_end (mid_mk (Kpt.refl _) (Chg.refl _ _) (fun w10 hBkw10 => ?_)))))))))
    have hzw10 := hBkw10.size
    refine wpC_block (wpC_seq (wpC_region (wpF_run 1 [(32, (vB (fk l k)))] (wpF_step (op_split (some 33) ((((fk l k : Nat) : Int) == ((0 : Nat) : Int))) (fun hc33 => ?_) (fun hc33 => ?_))))))
    · replace hc33 : fk l k = 0 := by have := of_eq_t hc33; omega
      refine wpF_end (then_code (wpC_true (wpC_seq (wpC_region (wpF_run 1 [(34, (vI (k + 1)))] (wpF_step (op_store1 3 w.heap.size 0 3 (vI (k + 1)) ([vI 0]) ((hB4).book hBkw10) (by first | decide | (simp; done) | (simp; omega)) ?_)))))))
      intro w11 hBw11 hCw11
      have hzw11 := hCw11.size
      replace hBw11 := hBw11.set1
      refine wpF_step (op_store1 31 w1.heap.size 0 31 (vI 13) ([vI 0]) ((((hB5).book hBkw10)).chg hCw11 (fun hs => by have h : _ = _ := hs; omega)) (by first | decide | (simp; done) | (simp; omega)) ?_)
      intro w12 hBw12 hCw12
      have hzw12 := hCw12.size
      replace hBw12 := hBw12.set1
      refine wpF_end (then_code (wpC_ret (inBlock_ret ?_)))
      have hX2 : Ext w w12 := (Ext.own (Ext.own (hEw.book hBkw10 (by omega)) hCw11 (by omega)) hCw12 (by omega))
      exact rpost_ret (((Kpt.refl _).blk ((hB4).book hBkw10) hCw11).blk ((((hB5).book hBkw10)).chg hCw11 (fun hs => by have h : _ = _ := hs; omega)) hCw12) (Chg.then (Chg.then (Chg.refl _ _) hCw11 (fun k hk hs => by have h : k = _ := hs; first | (left; omega) | (exfalso; omega) | (right; simp [h]; done))) hCw12 (fun k hk hs => by have h : k = _ := hs; first | (left; omega) | (exfalso; omega) | (right; simp [h]; done))) (⟨rfl, hnf, by omega, ((hBw11).chg hCw12 (fun hs => by have h : _ = _ := hs; omega)), hBw12, hX2⟩)
    · replace hc33 : ¬ (fk l k = 0) := by have := of_eq_f hc33; omega
      exact wpF_end (then_code (wpC_false (wpC_skip (inBlock_normal (rpost_normal (Kpt.refl _) (Chg.refl _ _) (⟨noF_succ hnf (by omega), ((hB4).book hBkw10), ((hB5).book hBkw10), (hEw.book hBkw10 (by omega))⟩))))))
  · rintro D w13 hD ⟨hnf, hB4, hB5, hEw⟩ hM
    have hl4 := hB4.lt; have hl5 := hB5.lt
    have hzr := hEw.size
    have hMl := hM.lt
    refine inBlock_normal (then_code (wpC_seq (wpC_region (wpF_step (op_store1 3 w.heap.size 0 3 (vI 0) ([vI 0]) hB4 (by first | decide | (simp; done) | (simp; omega)) ?_)))))
    intro w14 hBw14 hCw14
    have hzw14 := hCw14.size
    replace hBw14 := hBw14.set1
    refine wpF_step (op_store1 31 w1.heap.size 0 31 (vI 0) ([vI 0]) ((hB5).chg hCw14 (fun hs => by have h : _ = _ := hs; omega)) (by first | decide | (simp; done) | (simp; omega)) ?_)
    intro w15 hBw15 hCw15
    have hzw15 := hCw15.size
    replace hBw15 := hBw15.set1
    refine wpF_end (then_code (wpC_ret ?_))
    obtain ⟨w16, hTw16, hCw16, hBkw16⟩ := take_mark (P := Tryd.prog) ((((hM).chg hCw14 (fun hs => by have h : _ = _ := hs; omega))).chg hCw15 (fun hs => by have h : _ = _ := hs; omega))
    have hzw16 := hCw16.size
    refine retM hTw16 (run_res2 (by kernel_rfl) (show resVal Tryd.prog 35 _ _ (.cell 4 3) (vI 0) from ⟨⟨w.heap.size, 0, none⟩, (by kernel_rfl), run_loadVar_cell (T := 3) ((((((hBw14).chg hCw15 (fun hs => by have h : _ = _ := hs; omega))).book hBkw16)).cell rfl)⟩) (show resVal Tryd.prog 35 _ _ (.cell 5 31) (vI 0) from ⟨⟨w1.heap.size, 0, none⟩, (by kernel_rfl), run_loadVar_cell (T := 31) ((((hBw15).book hBkw16)).cell rfl)⟩)) ?_
    have hX3 : Ext w w16 := ((Ext.own (Ext.own hEw hCw14 (by omega)) hCw15 (by omega)).book hBkw16 (by omega))
    rw [show flt l = 0 from flt_none (by rw [← hlen]; exact hnf)]; exact ⟨rfl, hX3⟩
  · rintro D cc k w17 hD hk ⟨rfl, hnf, hfk, hB4, hB5, hEw⟩ hM
    have hl4 := hB4.lt; have hl5 := hB5.lt
    have hzr := hEw.size
    have hMl := hM.lt
    refine wpC_ret (inBlock_ret (then_ret ?_))
    obtain ⟨w18, hTw18, hCw18, hBkw18⟩ := take_mark (P := Tryd.prog) hM
    have hzw18 := hCw18.size
    refine retM hTw18 (run_res2 (by kernel_rfl) (show resVal Tryd.prog 35 _ _ (.cell 4 3) (vI (k + 1)) from ⟨⟨w.heap.size, 0, none⟩, (by kernel_rfl), run_loadVar_cell (T := 3) ((((hB4).book hBkw18)).cell rfl)⟩) (show resVal Tryd.prog 35 _ _ (.cell 5 31) (vI 13) from ⟨⟨w1.heap.size, 0, none⟩, (by kernel_rfl), run_loadVar_cell (T := 31) ((((hB5).book hBkw18)).cell rfl)⟩)) ?_
    rw [show flt l = k + 1 from flt_stop (by omega) hnf hfk]; exact ⟨rfl, (hEw.book hBkw18 (by omega))⟩

theorem c_Snd (n : Nat) {lo_l hi_l : Nat} {a_l : Option Addr} {n_l c_l : Nat} {l : List Cel}  (w : World) (h_l : Ms celC 34 lo_l hi_l w a_l n_l c_l l) (hp0 : 1 ≤ n) (hp1 : n ≤ 4096) (hg0 : Gl 0 [vI 45, vI 33] w) (hg1 : Gl 1 (w8C iniA) w) (hg2 : Gl 2 (w64C kA) w) :
    Calls Tryd.prog 20 #[(vI n), (.slice a_l n_l c_l)] w (Ret fun r w' => r = (.tuple #[(vI (sndA n l)), (vI (sndE n l))]) ∧ Ext w w') := by
  have hlen := h_l.len_eq
  by_cases h0 : n_l = 0
  · have h1 : l.length = 0 := by omega
    unfold sndA sndE; rw [if_pos h1, if_pos h1]; exact c_SndNil n w h_l hp0 hp1 h0 hg0 hg1 hg2
  · have h1 : ¬ l.length = 0 := by omega
    unfold sndA sndE; rw [if_neg h1, if_neg h1]
    cases h2 : (cel l 0).eqb (freC n) with
    | false => rw [if_pos rfl, if_pos rfl]; exact c_SndDif n w h_l hp0 hp1 (by omega) h2 hg0 hg1 hg2
    | true => rw [if_neg (by simp), if_neg (by simp)]; exact c_SndOk n w h_l hp0 hp1 (by omega) h2 hg0 hg1 hg2


end Go.Proofs.YthjplefmfjkhfaaDoor
