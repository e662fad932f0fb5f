/- CsC3: what each function does, by its own code. No condition beyond those of each statement. -/
import Derived.Test.YthjplefmfjkhfaaDoorCsC2
import Derived.Test.YthjplefmfjkhfaaDoorCsCel2
import Derived.Test.YthjplefmfjkhfaaDoorCsM
namespace Go.Proofs.YthjplefmfjkhfaaDoor
open Go Go.RowKit Go.Cs
set_option maxRecDepth 100000
set_option linter.all false
set_option linter.unusedVariables false

theorem i_steps {bb lo hi n c : Nat} {a : Option Addr} {l : List Cel} (B lp : Nat) (U : Nat → Prop) (J Jx : Nat → World → Prop) (w : World) (hB1 : Blk w bb [.slice a n c] 51) (hc : Ms celC 34 lo hi w a n c l) (hU : ∀ b, (B ≤ b ∨ U b) → b ≠ bb ∧ ¬ (lo ≤ b ∧ b < hi)) (hJ : ∀ k W W', J k W → Ext W W' → J k W') (hY : ∀ k W, k < n - 1 → J k W → Yat Tryd.prog lp [vI (k + 1), vB (fk l k)] W (fun v W' => (v = .bool true ∧ J (k + 1) W' ∧ Chg (fun b => B ≤ b ∨ U b) W W') ∨ (v = .bool false ∧ Chg (fun b => B ≤ b ∨ U b) W W' ∧ Jx k W'))) (h0 : J 0 w) :
    Calls Tryd.prog 39 #[(.func (.yield lp) #[] #[]), (vP bb 0)] w (Ret fun r w' => J (n - 1) w' ∨ ∃ k, k < n - 1 ∧ Jx k w') := by
  refine calls_of (n := 24) (σ := [(0, (.func (.yield lp) #[] #[])), (1, (vP bb 0))]) Tryd.func39 rfl ?_
  have hlen := hc.len_eq
  refine wpC_seq (wpC_region (wpF_run 1 [(3, (vI 1))] (wpF_end (then_code (wpC_block (wpC_loop (X := Nat) (fun k => [(3, (vI (k + 1)))]) [4, 5, 6, 7, 8, 9, 10, 11, 12, 13, 14, 15, 16, 17, 18, 19, 20, 21, 22, 23] (fun k w1 => k ≤ n - 1 ∧ J k w1 ∧ Blk w1 bb [.slice a n c] 51 ∧ Ms celC 34 lo hi w1 a n c l) (fun k => n - k) 0 (by kernel_rfl) ⟨by omega, h0, hB1, hc⟩ ?_))))))
  rintro k dw1 w1 ⟨hk, hJk, hBa, hEc⟩
  have hBlt := hBa.lt
  have hle := hEc.le
  refine wpC_seq (wpC_seq (wpC_region (wpF_run 1 [(4, (vI (k + 1)))] (wpF_step (op_v (some 5) (Instr.loadAt 51 (vP bb 0)) (.slice a n c) (rn_ld (hBa.cell rfl)) ?_)))))
  refine wpF_run 1 [(6, (vI n))] (wpF_step (op_split (some 7) (decide (((k + 1 : Nat) : Int) < ((n : Nat) : Int))) (fun hc7 => ?_) (fun hc7 => ?_)))
  · replace hc7 : k + 1 < n := by have := of_d_t hc7; omega
    refine wpF_end (then_code (wpC_true (wpC_skip (then_code (wpC_seq (wpC_block (wpC_seq (wpC_drawM (Chg (fun j => B ≤ j ∨ U j) w1.drew) 14 [(11, 1, 0), (12, 8, 0), (13, 2, 0), (14, 8, 0), (15, 8192, 8), (16, 20480, 20), (17, 32768, 32), (18, 2, 0), (19, 8, 0), (20, 393216, 384), (21, 524288, 512), (22, 1114112, 1088), (23, 2100224, 2051), (24, 4194304, 4096)] (fun hT30 => ?_)))))))))
    have hEw2 : Ext w1 w1.drew := Ext.drew w1
    generalize w1.drew = w2 at hEw2 ⊢
    have hzw2 := hEw2.size
    refine anyM_run (hw := show Chg (fun j => B ≤ j ∨ U j) w2 w2 from (Chg.refl (fun j => B ≤ j ∨ U j) w2)) hT30 [(0, 10, (.func (.yield lp) #[] #[])), (1, 11, (vI (k + 1)))] 2 3 (anyM_take (hw := show Chg (fun j => B ≤ j ∨ U j) w2 w2 from (Chg.refl (fun j => B ≤ j ∨ U j) w2)) hT30 2 7 (some 12) (.slice a n c) (yld_val (Instr.loadAt 51 (vP bb 0)) (fun w' hC => rn_ld (((hBa.ext hEw2).chg hC (fun hs => by have hu := hU _ hs; omega)).cell rfl))) (anyM_run (hw := show Chg (fun j => B ≤ j ∨ U j) w2 w2 from (Chg.refl (fun j => B ≤ j ∨ U j) w2)) hT30 [(3, 13, (vI (k + 1)))] 1 15 (anyM_take (hw := show Chg (fun j => B ≤ j ∨ U j) w2 w2 from (Chg.refl (fun j => B ≤ j ∨ U j) w2)) hT30 4 31 (some 14) (vI k) (yld_in .i64 (IntKind.i64.wrap (((k + 1 : Nat) : Int) - ((1 : Nat) : Int))) (wrapS (by omega) (by omega) (by omega))) ?_)))
    obtain ⟨b1, o1, rfl⟩ := hEc.addr (by omega) (by decide)
    refine anyM_take (hw := show Chg (fun j => B ≤ j ∨ U j) w2 w2 from (Chg.refl (fun j => B ≤ j ∨ U j) w2)) hT30 5 63 (some 15) (vP b1 (o1 + k * 34)) (yld_val (Instr.indexAt 51 (.slice (pA b1 o1) n c) (vI k)) (fun w' hC => rn_ixs (E := 30) (sz := 34) (by omega))) (anyM_take (hw := show Chg (fun j => B ≤ j ∨ U j) w2 w2 from (Chg.refl (fun j => B ≤ j ∨ U j) w2)) hT30 6 127 (some 16) (vA (celC (l.getD k Cel.zero))) (yld_val (Instr.loadAt 30 (vP b1 (o1 + k * 34))) (fun w' hC => rn_lda (vs := celC (l.getD k Cel.zero)) (((hEc.ext hEw2).chg hC (fun k h1 h2 hs => by have hu := hU _ hs; omega)).at Cel.zero (by omega)) (by rw [celC_len]; kernel_rfl))) (anyM_take (hw := show Chg (fun j => B ≤ j ∨ U j) w2 w2 from (Chg.refl (fun j => B ≤ j ∨ U j) w2)) hT30 7 255 (some 17) (.slice (pA b1 o1) n c) (yld_val (Instr.loadAt 51 (vP bb 0)) (fun w' hC => rn_ld (((hBa.ext hEw2).chg hC (fun hs => by have hu := hU _ hs; omega)).cell rfl))) (anyM_run (hw := show Chg (fun j => B ≤ j ∨ U j) w2 w2 from (Chg.refl (fun j => B ≤ j ∨ U j) w2)) hT30 [(8, 18, (vI (k + 1)))] 1 511 (anyM_take (hw := show Chg (fun j => B ≤ j ∨ U j) w2 w2 from (Chg.refl (fun j => B ≤ j ∨ U j) w2)) hT30 9 1023 (some 19) (vP b1 (o1 + (k + 1) * 34)) (yld_val (Instr.indexAt 51 (.slice (pA b1 o1) n c) (vI (k + 1))) (fun w' hC => rn_ixs (E := 30) (sz := 34) (by omega))) ?_))))
    refine anyM_take (hw := show Chg (fun j => B ≤ j ∨ U j) w2 w2 from (Chg.refl (fun j => B ≤ j ∨ U j) w2)) hT30 10 2047 (some 20) (vA (celC (l.getD (k + 1) Cel.zero))) (yld_val (Instr.loadAt 30 (vP b1 (o1 + (k + 1) * 34))) (fun w' hC => rn_lda (vs := celC (l.getD (k + 1) Cel.zero)) (((hEc.ext hEw2).chg hC (fun k h1 h2 hs => by have hu := hU _ hs; omega)).at Cel.zero (by omega)) (by rw [celC_len]; kernel_rfl))) (anyM_one 11 4095 (op_call (some 21) (c_Fol (l.getD k Cel.zero) (l.getD (k + 1) Cel.zero) _) ?_))
    rintro _ w3 ⟨rfl, hEw3⟩
    have hzw3 := hEw3.size
    refine ⟨.inr ((Chg.refl (fun j => B ≤ j ∨ U j) w2).trans hEw3.chg), ?_⟩
    refine anyM_one 12 8191 (op_yield (some 22) lp [(vI (k + 1)), (vB (fol (l.getD k Cel.zero) (l.getD (k + 1) Cel.zero)))] (hY k _ (by omega) (hJ _ _ _ (hJ _ _ _ hJk hEw2) hEw3)) ?_)
    rintro _ w4 (⟨rfl, hJw4, hCw4⟩ | ⟨rfl, hCw4, hXw4⟩)
    · have hzw4 := hCw4.size
      refine ⟨.inr (Chg.then ((Chg.refl (fun j => B ≤ j ∨ U j) w2).trans hEw3.chg) hCw4 (fun k hk hs => hs)), ?_⟩
      refine anyM_run (hw := show Chg (fun j => B ≤ j ∨ U j) w2 w4 from (Chg.then ((Chg.refl (fun j => B ≤ j ∨ U j) w2).trans hEw3.chg) hCw4 (fun k hk hs => hs))) hT30 [(13, 23, vF)] 1 16383 (anyM_done (then_code (wpC_false (wpC_skip (inBlock_normal (then_code (wpC_region (wpF_run 1 [(8, (vI (k + 1)))] (wpF_step (op_in (some 9) .i64 (IntKind.i64.wrap (((k + 1 : Nat) : Int) + ((1 : Nat) : Int))) (k + 1 + 1) (wrapS (by omega) (by omega) (by omega)) ?_))))))))))
      refine wpF_run 1 [(3, (vI (k + 1 + 1)))] (wpF_end (then_normal ?_))
      have hK1 := (((((hBa.ext hEw2)).ext hEw3)).chg hCw4 (fun hs => by have hu := hU _ hs; omega))
      have hK2 := (((((hEc.ext hEw2)).ext hEw3)).chg hCw4 (fun k h1 h2 hs => by have hu := hU _ hs; omega))
      refine endR_mk (k + 1) ?_ ?_
      · exact ⟨by omega, hJw4, hK1, hK2⟩
      · first | omega | (dsimp only; omega)
    · have hzw4 := hCw4.size
      refine ⟨.inr (Chg.then ((Chg.refl (fun j => B ≤ j ∨ U j) w2).trans hEw3.chg) hCw4 (fun k hk hs => hs)), ?_⟩
      refine anyM_run (hw := show Chg (fun j => B ≤ j ∨ U j) w2 w4 from (Chg.then ((Chg.refl (fun j => B ≤ j ∨ U j) w2).trans hEw3.chg) hCw4 (fun k hk hs => hs))) hT30 [(13, 23, vT)] 1 16383 (anyM_done (then_code (wpC_true (wpC_ret (inBlock_ret (then_ret (then_ret (inBlock_ret (body_rets (.tuple #[]) ?_)))))))))
      exact .inr ⟨k, by omega, hXw4⟩
  · replace hc7 : ¬ (k + 1 < n) := by have := of_d_f hc7; omega
    refine wpF_end (then_code (wpC_false (wpC_exit (then_exit (then_exit (inBlock_exit (body_end ?_)))))))
    obtain rfl : k = n - 1 := by omega
    exact .inl hJk

theorem c_steps {lo_l hi_l : Nat} {a_l : Option Addr} {n_l c_l : Nat} {l : List Cel}  (w : World) (h_l : Ms celC 34 lo_l hi_l w a_l n_l c_l l) :
    Calls Tryd.prog 32 #[(.slice a_l n_l c_l)] w (Ret fun r w' => ∃ a0, r = (.func (.func 39) #[] #[(vP a0 0)]) ∧ w.heap.size ≤ a0 ∧ Blk w' a0 [(.slice a_l n_l c_l)] 51 ∧ Ext w w') := by
  refine calls_of (n := 4) (σ := [(0, (.slice a_l n_l c_l))]) Tryd.func32 rfl ?_
  replace h_l := h_l.now; have hle_l := h_l.le
  refine wpC_seq (wpC_region (wpF_step (op_new (some 1) (Instr.box 51 (.slice a_l n_l c_l)) (vP w.heap.size 0) ([(.slice a_l n_l c_l)]) 51 ?_)))
  intro w1 hBw1 hEw1
  have hzw1 := hEw1.size; have hlw1 := hBw1.lt
  refine wpF_run 1 [(2, .nilFunc)] (wpF_end (then_code (wpC_seq (wpC_region (wpF_run 2 [(2, (.func (.func 39) #[] #[(vP w.heap.size 0)])), (3, (.func (.func 39) #[] #[(vP w.heap.size 0)]))] (wpF_end (then_code (wpC_ret (body_rets (.func (.func 39) #[] #[(vP w.heap.size 0)]) ?_)))))))))
  exact ⟨_, rfl, by omega, hBw1, hEw1⟩

theorem c_SndNil (n : Nat) {lo_l hi_l : Nat} {a_l : Option Addr} {n_l c_l : Nat} {l : List Cel}  (w : World) (h_l : Ms celC 34 lo_l hi_l w a_l n_l c_l l) (hp0 : 1 ≤ n) (hp1 : n ≤ 4096) (hp2 : n_l = 0) (hg0 : Gl 0 [vI 45, vI 33] w) (hg1 : Gl 1 (w8C iniA) w) (hg2 : Gl 2 (w64C kA) w) :
    Calls Tryd.prog 20 #[(vI n), (.slice a_l n_l c_l)] w (Ret fun r w' => r = (.tuple #[(vI 0), (vI 16)]) ∧ Ext w w') := by
  refine calls_ofM (n := 35) (σ := [(0, (vI n)), (1, (.slice a_l n_l c_l))]) Tryd.func20 rfl ?_
  replace h_l := h_l.now; have hle_l := h_l.le
  have hgl0 := hg0.lt
  have hgl1 := hg1.lt
  have hgl2 := hg2.lt
  refine wpC_seq (wpC_region (wpF_step (op_new (some 4) (Instr.alloc 3 true (.tuple #[])) (vP w.heap.size 0) ([(vI 0)]) 3 ?_)))
  intro w1 hBw1 hEw1
  have hzw1 := hEw1.size; have hlw1 := hBw1.lt
  refine wpF_step (op_new (some 5) (Instr.alloc 31 true (.tuple #[])) (vP w1.heap.size 0) ([(vI 0)]) 31 ?_)
  intro w2 hBw2 hEw2
  have hzw2 := hEw2.size; have hlw2 := hBw2.lt
  refine wpF_end (then_code (wpC_seq (wpC_region (wpF_run 1 [(10, (vI n))] (wpF_step (op_call (some 11) (c_Fresh n _ (by omega) (by omega) (((hg0.ext hEw1)).ext hEw2) (((hg1.ext hEw1)).ext hEw2) (((hg2.ext hEw1)).ext hEw2)) ?_))))))
  rintro _ w3 ⟨rfl, hEw3⟩
  have hzw3 := hEw3.size
  refine wpF_run 3 [(13, (vI 0)), (12, (vA (celC (freC n)))), (9, (.tuple #[(vA (celC (freC n))), (vI 0)]))] (wpF_step (op_new (some 6) (Instr.alloc 30 true (.tuple #[])) (vP w3.heap.size 0) (celC Cel.zero) 30 ?_))
  intro w4 hBw4 hEw4
  have hzw4 := hEw4.size; have hlw4 := hBw4.lt
  refine wpF_step (op_store 30 w3.heap.size 0 30 (vA (celC (freC n))) (celC Cel.zero) (celC (freC n)) hBw4 (by rw [celC_len]; kernel_rfl) (by first | (simp; done) | (simp; omega)) (celC_one _) ?_)
  intro w5 hBw5 hCw5
  have hzw5 := hCw5.size
  rw [setFrom_all _ _ (by simp)] at hBw5
  have hK1 := (((((hBw2.ext hEw3)).ext hEw4)).chg hCw5 (fun hs => by have h : _ = _ := hs; omega))
  refine wpF_step (op_store1 31 w1.heap.size 0 31 (vI 0) ([(vI 0)]) hK1 (by first | decide | (simp; done) | (simp; omega)) ?_)
  have hK2 := (((((hBw2.ext hEw3)).ext hEw4)).chg hCw5 (fun hs => by have h : _ = _ := hs; omega))
  intro w6 hBw6 hCw6
  have hzw6 := hCw6.size
  replace hBw6 := hBw6.set1
  refine wpF_end (then_code (wpC_seq (wpC_block (wpC_seq (wpC_region (wpF_step (op_v (some 15) (Instr.loadAt 31 (vP w1.heap.size 0)) (vI 0) (rn_ld (hBw6.cell rfl)) ?_)))))))
  refine wpF_step (op_b (some 16) (((0 : Nat) : Int) != ((0 : Nat) : Int)) false (cmpNeF (by omega)) ?_)
  refine wpF_run 1 [(14, vF)] (wpF_end (then_code (wpC_false (wpC_seq (wpC_region (wpF_run 2 [(20, (vI n_l)), (19, (.slice a_l n_l c_l))] (wpF_step (op_b (some 21) (((n_l : Nat) : Int) == ((0 : Nat) : Int)) true (cmpEqT (by omega)) ?_))))))))
  refine wpF_run 1 [(18, vT)] (wpF_end (then_code (wpC_true (wpC_seq (wpC_region ?_)))))
  have hK3 := (((((((((hBw1.ext hEw2)).ext hEw3)).ext hEw4)).chg hCw5 (fun hs => by have h : _ = _ := hs; omega))).chg hCw6 (fun hs => by have h : _ = _ := hs; omega))
  refine wpF_step (op_store1 3 w.heap.size 0 3 (vI 0) ([(vI 0)]) hK3 (by first | decide | (simp; done) | (simp; omega)) ?_)
  have hK4 := (((((((((hBw1.ext hEw2)).ext hEw3)).ext hEw4)).chg hCw5 (fun hs => by have h : _ = _ := hs; omega))).chg hCw6 (fun hs => by have h : _ = _ := hs; omega))
  intro w7 hBw7 hCw7
  have hzw7 := hCw7.size
  replace hBw7 := hBw7.set1
  refine wpF_step (op_store1 31 w1.heap.size 0 31 (vI 16) ([(vI 0)]) ((hBw6).chg hCw7 (fun hs => by have h : _ = _ := hs; omega)) (by first | decide | (simp; done) | (simp; omega)) ?_)
  intro w8 hBw8 hCw8
  have hzw8 := hCw8.size
  replace hBw8 := hBw8.set1
  refine wpF_end (then_code (wpC_ret (inBlock_ret (then_ret (bodyM0_ret (run_res2 (by kernel_rfl) (show resVal Tryd.prog 35 _ _ (.cell 4 3) (vI 0) from ⟨⟨w.heap.size, 0, none⟩, (by kernel_rfl), run_loadVar_cell (T := 3) ((((hBw7).chg hCw8 (fun hs => by have h : _ = _ := hs; omega))).cell rfl)⟩) (show resVal Tryd.prog 35 _ _ (.cell 5 31) (vI 16) from ⟨⟨w1.heap.size, 0, none⟩, (by kernel_rfl), run_loadVar_cell (T := 31) ((hBw8).cell rfl)⟩)) ?_)))))
  have hX1 : Ext w w8 := (Ext.own (Ext.own (Ext.own (Ext.own (((hEw1.trans hEw2).trans hEw3).trans hEw4) hCw5 (by omega)) hCw6 (by omega)) hCw7 (by omega)) hCw8 (by omega))
  exact ⟨rfl, hX1⟩

theorem c_SndDif (n : Nat) {lo_l hi_l : Nat} {a_l : Option Addr} {n_l c_l : Nat} {l : List Cel}  (w : World) (h_l : Ms celC 34 lo_l hi_l w a_l n_l c_l l) (hp0 : 1 ≤ n) (hp1 : n ≤ 4096) (hp2 : 0 < n_l) (hp3 : (cel l 0).eqb (freC n) = false) (hg0 : Gl 0 [vI 45, vI 33] w) (hg1 : Gl 1 (w8C iniA) w) (hg2 : Gl 2 (w64C kA) w) :
    Calls Tryd.prog 20 #[(vI n), (.slice a_l n_l c_l)] w (Ret fun r w' => r = (.tuple #[(vI 0), (vI 1)]) ∧ Ext w w') := by
  refine calls_ofM (n := 35) (σ := [(0, (vI n)), (1, (.slice a_l n_l c_l))]) Tryd.func20 rfl ?_
  replace h_l := h_l.now; have hle_l := h_l.le
  have hgl0 := hg0.lt
  have hgl1 := hg1.lt
  have hgl2 := hg2.lt
  refine wpC_seq (wpC_region (wpF_step (op_new (some 4) (Instr.alloc 3 true (.tuple #[])) (vP w.heap.size 0) ([(vI 0)]) 3 ?_)))
  intro w1 hBw1 hEw1
  have hzw1 := hEw1.size; have hlw1 := hBw1.lt
  refine wpF_step (op_new (some 5) (Instr.alloc 31 true (.tuple #[])) (vP w1.heap.size 0) ([(vI 0)]) 31 ?_)
  intro w2 hBw2 hEw2
  have hzw2 := hEw2.size; have hlw2 := hBw2.lt
  refine wpF_end (then_code (wpC_seq (wpC_region (wpF_run 1 [(10, (vI n))] (wpF_step (op_call (some 11) (c_Fresh n _ (by omega) (by omega) (((hg0.ext hEw1)).ext hEw2) (((hg1.ext hEw1)).ext hEw2) (((hg2.ext hEw1)).ext hEw2)) ?_))))))
  rintro _ w3 ⟨rfl, hEw3⟩
  have hzw3 := hEw3.size
  refine wpF_run 3 [(13, (vI 0)), (12, (vA (celC (freC n)))), (9, (.tuple #[(vA (celC (freC n))), (vI 0)]))] (wpF_step (op_new (some 6) (Instr.alloc 30 true (.tuple #[])) (vP w3.heap.size 0) (celC Cel.zero) 30 ?_))
  intro w4 hBw4 hEw4
  have hzw4 := hEw4.size; have hlw4 := hBw4.lt
  refine wpF_step (op_store 30 w3.heap.size 0 30 (vA (celC (freC n))) (celC Cel.zero) (celC (freC n)) hBw4 (by rw [celC_len]; kernel_rfl) (by first | (simp; done) | (simp; omega)) (celC_one _) ?_)
  intro w5 hBw5 hCw5
  have hzw5 := hCw5.size
  rw [setFrom_all _ _ (by simp)] at hBw5
  have hK1 := (((((hBw2.ext hEw3)).ext hEw4)).chg hCw5 (fun hs => by have h : _ = _ := hs; omega))
  refine wpF_step (op_store1 31 w1.heap.size 0 31 (vI 0) ([(vI 0)]) hK1 (by first | decide | (simp; done) | (simp; omega)) ?_)
  have hK2 := (((((hBw2.ext hEw3)).ext hEw4)).chg hCw5 (fun hs => by have h : _ = _ := hs; omega))
  intro w6 hBw6 hCw6
  have hzw6 := hCw6.size
  replace hBw6 := hBw6.set1
  refine wpF_end (then_code (wpC_seq (wpC_block (wpC_seq (wpC_region (wpF_step (op_v (some 15) (Instr.loadAt 31 (vP w1.heap.size 0)) (vI 0) (rn_ld (hBw6.cell rfl)) ?_)))))))
  refine wpF_step (op_b (some 16) (((0 : Nat) : Int) != ((0 : Nat) : Int)) false (cmpNeF (by omega)) ?_)
  refine wpF_run 1 [(14, vF)] (wpF_end (then_code (wpC_false (wpC_seq (wpC_region (wpF_run 2 [(20, (vI n_l)), (19, (.slice a_l n_l c_l))] (wpF_step (op_b (some 21) (((n_l : Nat) : Int) == ((0 : Nat) : Int)) false (cmpEqF (by omega)) ?_))))))))
  refine wpF_run 1 [(18, vF)] (wpF_end (then_code (wpC_false (wpC_seq (wpC_drawM (Ext w6.drew) 6 [(24, 2, 0), (25, 8388608, 1), (26, 16777216, 2), (27, 64, 0), (28, 100663296, 12), (23, 134217728, 16)] (fun hT206 => ?_))))))
  have hEw7 : Ext w6 w6.drew := Ext.drew w6
  generalize w6.drew = w7 at hEw7 ⊢
  have hzw7 := hEw7.size
  refine anyM_run hT206 [(0, 23, (.slice a_l n_l c_l))] 1 1 ?_
  obtain ⟨b1, o1, rfl⟩ := h_l.addr (by omega) (by decide)
  refine anyM_take hT206 1 3 (some 24) (vP b1 (o1 + 0 * 34)) (yld_val (Instr.indexAt 51 (.slice (pA b1 o1) n_l c_l) (vI 0)) (fun w' hC => rn_ixs (E := 30) (sz := 34) (by omega))) ?_
  have hK3 := (((((((((((((h_l.ext hEw1)).ext hEw2)).ext hEw3)).ext hEw4)).chg hCw5 (fun k h1 h2 hs => by have h : k = _ := hs; omega))).chg hCw6 (fun k h1 h2 hs => by have h : k = _ := hs; omega))).ext hEw7)
  refine anyM_take hT206 2 7 (some 25) (vA (celC (l.getD 0 Cel.zero))) (yld_val (Instr.loadAt 30 (vP b1 (o1 + 0 * 34))) (fun w' hC => rn_lda (vs := celC (l.getD 0 Cel.zero)) ((hK3.ext hC).at Cel.zero (by omega)) (by rw [celC_len]; kernel_rfl))) (anyM_take hT206 3 15 (some 26) (vA (celC (freC n))) (yld_val (Instr.loadAt 30 (vP w3.heap.size 0)) (fun w' hC => rn_lda (vs := celC (freC n)) ((((((hBw5).chg hCw6 (fun hs => by have h : _ = _ := hs; omega))).ext hEw7).ext hC).all) (by rw [celC_len]; kernel_rfl))) (anyM_take hT206 4 31 (some 27) vT (yld_val (bo .neq 30 (.tmp 25) (.tmp 26) (vA (celC (l.getD 0 Cel.zero))) (vA (celC (freC n)))) (fun w' hC => run_neqAgg (r := false) (T := 30) ((run_eq_cel (dd := 9997) (t := 30) (td := 27) (e := 5) (t64 := 28) (l.getD 0 Cel.zero) (freC n)).trans (congrArg (fun b => Result.ok b _) (show ((l.getD 0 Cel.zero).eqb (freC n)) = false from hp3))))) (anyM_run hT206 [(5, 22, vT)] 1 63 (anyM_done (then_code (wpC_true (wpC_seq (wpC_region ?_))))))))
  have hK4 := (((((((((((hBw1.ext hEw2)).ext hEw3)).ext hEw4)).chg hCw5 (fun hs => by have h : _ = _ := hs; omega))).chg hCw6 (fun hs => by have h : _ = _ := hs; omega))).ext hEw7)
  refine wpF_step (op_store1 3 w.heap.size 0 3 (vI 0) ([(vI 0)]) hK4 (by first | decide | (simp; done) | (simp; omega)) ?_)
  have hK5 := (((((((((((hBw1.ext hEw2)).ext hEw3)).ext hEw4)).chg hCw5 (fun hs => by have h : _ = _ := hs; omega))).chg hCw6 (fun hs => by have h : _ = _ := hs; omega))).ext hEw7)
  intro w8 hBw8 hCw8
  have hzw8 := hCw8.size
  replace hBw8 := hBw8.set1
  refine wpF_step (op_store1 31 w1.heap.size 0 31 (vI 1) ([(vI 0)]) (((hBw6.ext hEw7)).chg hCw8 (fun hs => by have h : _ = _ := hs; omega)) (by first | decide | (simp; done) | (simp; omega)) ?_)
  intro w9 hBw9 hCw9
  have hzw9 := hCw9.size
  replace hBw9 := hBw9.set1
  refine wpF_end (then_code (wpC_ret (inBlock_ret (then_ret (bodyM0_ret (run_res2 (by kernel_rfl) (show resVal Tryd.prog 35 _ _ (.cell 4 3) (vI 0) from ⟨⟨w.heap.size, 0, none⟩, (by kernel_rfl), run_loadVar_cell (T := 3) ((((hBw8).chg hCw9 (fun hs => by have h : _ = _ := hs; omega))).cell rfl)⟩) (show resVal Tryd.prog 35 _ _ (.cell 5 31) (vI 1) from ⟨⟨w1.heap.size, 0, none⟩, (by kernel_rfl), run_loadVar_cell (T := 31) ((hBw9).cell rfl)⟩)) ?_)))))
  have hX1 : Ext w w9 := (Ext.own (Ext.own ((Ext.own (Ext.own (((hEw1.trans hEw2).trans hEw3).trans hEw4) hCw5 (by omega)) hCw6 (by omega)).trans hEw7) hCw8 (by omega)) hCw9 (by omega))
  exact ⟨rfl, hX1⟩

theorem c_SndOk (n : Nat) {lo_l hi_l : Nat} {a_l : Option Addr} {n_l c_l : Nat} {l : List Cel}  (w : World) (h_l : Ms celC 34 lo_l hi_l w a_l n_l c_l l) (hp0 : 1 ≤ n) (hp1 : n ≤ 4096) (hp2 : 0 < n_l) (hp3 : (cel l 0).eqb (freC n) = true) (hg0 : Gl 0 [vI 45, vI 33] w) (hg1 : Gl 1 (w8C iniA) w) (hg2 : Gl 2 (w64C kA) w) :
    Calls Tryd.prog 20 #[(vI n), (.slice a_l n_l c_l)] w (Ret fun r w' => r = (.tuple #[(vI (flt l)), (vI (if flt l = 0 then 0 else 13))]) ∧ Ext w w') := by
  refine calls_ofM (n := 35) (σ := [(0, (vI n)), (1, (.slice a_l n_l c_l))]) Tryd.func20 rfl ?_
  replace h_l := h_l.now; have hle_l := h_l.le
  have hgl0 := hg0.lt
  have hgl1 := hg1.lt
  have hgl2 := hg2.lt
  have hlen := h_l.len_eq
  refine wpC_seq (wpC_region (wpF_step (op_new (some 4) (Instr.alloc 3 true (.tuple #[])) (vP w.heap.size 0) ([(vI 0)]) 3 ?_)))
  intro w1 hBw1 hEw1
  have hzw1 := hEw1.size; have hlw1 := hBw1.lt
  refine wpF_step (op_new (some 5) (Instr.alloc 31 true (.tuple #[])) (vP w1.heap.size 0) ([(vI 0)]) 31 ?_)
  intro w2 hBw2 hEw2
  have hzw2 := hEw2.size; have hlw2 := hBw2.lt
  refine wpF_end (then_code (wpC_seq (wpC_region (wpF_run 1 [(10, (vI n))] (wpF_step (op_call (some 11) (c_Fresh n _ (by omega) (by omega) (((hg0.ext hEw1)).ext hEw2) (((hg1.ext hEw1)).ext hEw2) (((hg2.ext hEw1)).ext hEw2)) ?_))))))
  rintro _ w3 ⟨rfl, hEw3⟩
  have hzw3 := hEw3.size
  refine wpF_run 3 [(13, (vI 0)), (12, (vA (celC (freC n)))), (9, (.tuple #[(vA (celC (freC n))), (vI 0)]))] (wpF_step (op_new (some 6) (Instr.alloc 30 true (.tuple #[])) (vP w3.heap.size 0) (celC Cel.zero) 30 ?_))
  intro w4 hBw4 hEw4
  have hzw4 := hEw4.size; have hlw4 := hBw4.lt
  refine wpF_step (op_store 30 w3.heap.size 0 30 (vA (celC (freC n))) (celC Cel.zero) (celC (freC n)) hBw4 (by rw [celC_len]; kernel_rfl) (by first | (simp; done) | (simp; omega)) (celC_one _) ?_)
  intro w5 hBw5 hCw5
  have hzw5 := hCw5.size
  rw [setFrom_all _ _ (by simp)] at hBw5
  have hK1 := (((((hBw2.ext hEw3)).ext hEw4)).chg hCw5 (fun hs => by have h : _ = _ := hs; omega))
  refine wpF_step (op_store1 31 w1.heap.size 0 31 (vI 0) ([(vI 0)]) hK1 (by first | decide | (simp; done) | (simp; omega)) ?_)
  have hK2 := (((((hBw2.ext hEw3)).ext hEw4)).chg hCw5 (fun hs => by have h : _ = _ := hs; omega))
  intro w6 hBw6 hCw6
  have hzw6 := hCw6.size
  replace hBw6 := hBw6.set1
  refine wpF_end (then_code (wpC_seq (wpC_block (wpC_seq (wpC_region (wpF_step (op_v (some 15) (Instr.loadAt 31 (vP w1.heap.size 0)) (vI 0) (rn_ld (hBw6.cell rfl)) ?_)))))))
  refine wpF_step (op_b (some 16) (((0 : Nat) : Int) != ((0 : Nat) : Int)) false (cmpNeF (by omega)) ?_)
  refine wpF_run 1 [(14, vF)] (wpF_end (then_code (wpC_false (wpC_seq (wpC_region (wpF_run 2 [(20, (vI n_l)), (19, (.slice a_l n_l c_l))] (wpF_step (op_b (some 21) (((n_l : Nat) : Int) == ((0 : Nat) : Int)) false (cmpEqF (by omega)) ?_))))))))
  refine wpF_run 1 [(18, vF)] (wpF_end (then_code (wpC_false (wpC_seq (wpC_drawM (Ext w6.drew) 6 [(24, 2, 0), (25, 8388608, 1), (26, 16777216, 2), (27, 64, 0), (28, 100663296, 12), (23, 134217728, 16)] (fun hT262 => ?_))))))
  have hEw7 : Ext w6 w6.drew := Ext.drew w6
  generalize w6.drew = w7 at hEw7 ⊢
  have hzw7 := hEw7.size
  refine anyM_run hT262 [(0, 23, (.slice a_l n_l c_l))] 1 1 ?_
  obtain ⟨b1, o1, rfl⟩ := h_l.addr (by omega) (by decide)
  refine anyM_take hT262 1 3 (some 24) (vP b1 (o1 + 0 * 34)) (yld_val (Instr.indexAt 51 (.slice (pA b1 o1) n_l c_l) (vI 0)) (fun w' hC => rn_ixs (E := 30) (sz := 34) (by omega))) ?_
  have hK3 := (((((((((((((h_l.ext hEw1)).ext hEw2)).ext hEw3)).ext hEw4)).chg hCw5 (fun k h1 h2 hs => by have h : k = _ := hs; omega))).chg hCw6 (fun k h1 h2 hs => by have h : k = _ := hs; omega))).ext hEw7)
  refine anyM_take hT262 2 7 (some 25) (vA (celC (l.getD 0 Cel.zero))) (yld_val (Instr.loadAt 30 (vP b1 (o1 + 0 * 34))) (fun w' hC => rn_lda (vs := celC (l.getD 0 Cel.zero)) ((hK3.ext hC).at Cel.zero (by omega)) (by rw [celC_len]; kernel_rfl))) (anyM_take hT262 3 15 (some 26) (vA (celC (freC n))) (yld_val (Instr.loadAt 30 (vP w3.heap.size 0)) (fun w' hC => rn_lda (vs := celC (freC n)) ((((((hBw5).chg hCw6 (fun hs => by have h : _ = _ := hs; omega))).ext hEw7).ext hC).all) (by rw [celC_len]; kernel_rfl))) (anyM_take hT262 4 31 (some 27) vF (yld_val (bo .neq 30 (.tmp 25) (.tmp 26) (vA (celC (l.getD 0 Cel.zero))) (vA (celC (freC n)))) (fun w' hC => run_neqAgg (r := true) (T := 30) ((run_eq_cel (dd := 9997) (t := 30) (td := 27) (e := 5) (t64 := 28) (l.getD 0 Cel.zero) (freC n)).trans (congrArg (fun b => Result.ok b _) (show ((l.getD 0 Cel.zero).eqb (freC n)) = true from hp3))))) (anyM_run hT262 [(5, 22, vF)] 1 63 (anyM_done (then_code (wpC_false (wpC_skip (inBlock_normal (then_code ?_)))))))))
  refine wpC_seq (wpC_seq (wpC_region (wpF_run 1 [(28, (.slice (pA b1 o1) n_l c_l))] (wpF_step (op_call (some 29) (c_steps _ hK3) ?_)))))
  rintro _ w8 ⟨a1, rfl, hFz2_0, hFz2_1, hEw8⟩
  have hzw8 := hEw8.size
  have hla1 := hFz2_1.lt
  refine wpF_end (then_code (wpC_block ?_))
  have hK4 := (((((((((((((hBw1.ext hEw2)).ext hEw3)).ext hEw4)).chg hCw5 (fun hs => by have h : _ = _ := hs; omega))).chg hCw6 (fun hs => by have h : _ = _ := hs; omega))).ext hEw7)).ext hEw8)
  have hX1 : Ext w w8 := (((Ext.own (Ext.own (((hEw1.trans hEw2).trans hEw3).trans hEw4) hCw5 (by omega)) hCw6 (by omega)).trans hEw7).trans hEw8)
  refine wpC_range [30, 31] 39 [(vP a1 0)] (n_l - 1) (fun k => [(vI (k + 1)), (vB (fk l k))]) (fun b => b = w.heap.size ∨ b = w1.heap.size) (fun b => False) (fun k w' => noF l k ∧ Blk w' w.heap.size [vI 0] 3 ∧ Blk w' w1.heap.size [vI 0] 31 ∧ Ext w w') (fun cc k w' => cc = .ret ∧ noF l k ∧ fk l k = 0 ∧ Blk w' w.heap.size [vI (k + 1)] 3 ∧ Blk w' w1.heap.size [vI 13] 31 ∧ Ext w w') (fun b hb => hb.elim) (fun _ => rfl) (fun k W W' ⟨h1, h2, h3, h4⟩ hb => ⟨h1, h2.book hb, h3.book hb, h4.book hb (by omega)⟩) (fun _ k W W' ⟨hc, h0, h1, h2, h3, h4⟩ hb => ⟨hc, h0, h1, h2.book hb, h3.book hb, h4.book hb (by omega)⟩) (fun k W W' ⟨h1, h2, h3, h4⟩ hc => ⟨h1, h2.ext hc, h3.ext hc, h4.trans hc⟩) (⟨noF_zero l, hK4, (((hBw6.ext hEw7)).ext hEw8), hX1⟩) (fun lp J Jx w1 hE1 hJ hY h0 => i_steps (l := l) w8.heap.size lp _ J Jx w1 (hFz2_1.ext hE1) ((hK3.ext hEw8).ext hE1) (fun b hb => by omega) hJ hY h0) ?_ ?_ ?_
  · rintro lR k w9 hl ⟨hnf, hB4, hB5, hEw⟩ hk
    have hl4 := hB4.lt; have hl5 := hB5.lt
    have hzr := hEw.size
    refine wpC_seq (wpC_region (wpF_run 1 [(7, (vI (k + 1)))] (wpF_end (then_code (wpC_region (wpF_run 1 [(8, (vB (fk l k)))] (wpF_end (mid_mk (Kpt.refl _) (Chg.refl _ _) (fun w10 hBkw10 => ?_)))))))))
    have hzw10 := hBkw10.size
    refine wpC_block (wpC_seq (wpC_region (wpF_run 1 [(32, (vB (fk l k)))] (wpF_step (op_split (some 33) ((((fk l k : Nat) : Int) == ((0 : Nat) : Int))) (fun hc33 => ?_) (fun hc33 => ?_))))))
    · replace hc33 : fk l k = 0 := by have := of_eq_t hc33; omega
      refine wpF_end (then_code (wpC_true (wpC_seq (wpC_region (wpF_run 1 [(34, (vI (k + 1)))] (wpF_step (op_store1 3 w.heap.size 0 3 (vI (k + 1)) ([vI 0]) ((hB4).book hBkw10) (by first | decide | (simp; done) | (simp; omega)) ?_)))))))
      intro w11 hBw11 hCw11
      have hzw11 := hCw11.size
      replace hBw11 := hBw11.set1
      refine wpF_step (op_store1 31 w1.heap.size 0 31 (vI 13) ([vI 0]) ((((hB5).book hBkw10)).chg hCw11 (fun hs => by have h : _ = _ := hs; omega)) (by first | decide | (simp; done) | (simp; omega)) ?_)
      intro w12 hBw12 hCw12
      have hzw12 := hCw12.size
      replace hBw12 := hBw12.set1
      refine wpF_end (then_code (wpC_ret (inBlock_ret ?_)))
      have hX2 : Ext w w12 := (Ext.own (Ext.own (hEw.book hBkw10 (by omega)) hCw11 (by omega)) hCw12 (by omega))
      exact rpost_ret (((Kpt.refl _).blk ((hB4).book hBkw10) hCw11).blk ((((hB5).book hBkw10)).chg hCw11 (fun hs => by have h : _ = _ := hs; omega)) hCw12) (Chg.then (Chg.then (Chg.refl _ _) hCw11 (fun k hk hs => by have h : k = _ := hs; first | (left; omega) | (exfalso; omega) | (right; simp [h]; done))) hCw12 (fun k hk hs => by have h : k = _ := hs; first | (left; omega) | (exfalso; omega) | (right; simp [h]; done))) (⟨rfl, hnf, by omega, ((hBw11).chg hCw12 (fun hs => by have h : _ = _ := hs; omega)), hBw12, hX2⟩)
    · replace hc33 : ¬ (fk l k = 0) := by have := of_eq_f hc33; omega
      exact wpF_end (then_code (wpC_false (wpC_skip (inBlock_normal (rpost_normal (Kpt.refl _) (Chg.refl _ _) (⟨noF_succ hnf (by omega), ((hB4).book hBkw10), ((hB5).book hBkw10), (hEw.book hBkw10 (by omega))⟩))))))
  · rintro D w13 hD ⟨hnf, hB4, hB5, hEw⟩ hM
    have hl4 := hB4.lt; have hl5 := hB5.lt
    have hzr := hEw.size
    have hMl := hM.lt
    refine inBlock_normal (then_code (wpC_seq (wpC_region (wpF_step (op_store1 3 w.heap.size 0 3 (vI 0) ([vI 0]) hB4 (by first | decide | (simp; done) | (simp; omega)) ?_)))))
    intro w14 hBw14 hCw14
    have hzw14 := hCw14.size
    replace hBw14 := hBw14.set1
    refine wpF_step (op_store1 31 w1.heap.size 0 31 (vI 0) ([vI 0]) ((hB5).chg hCw14 (fun hs => by have h : _ = _ := hs; omega)) (by first | decide | (simp; done) | (simp; omega)) ?_)
    intro w15 hBw15 hCw15
    have hzw15 := hCw15.size
    replace hBw15 := hBw15.set1
    refine wpF_end (then_code (wpC_ret ?_))
    obtain ⟨w16, hTw16, hCw16, hBkw16⟩ := take_mark (P := Tryd.prog) ((((hM).chg hCw14 (fun hs => by have h : _ = _ := hs; omega))).chg hCw15 (fun hs => by have h : _ = _ := hs; omega))
    have hzw16 := hCw16.size
    refine retM hTw16 (run_res2 (by kernel_rfl) (show resVal Tryd.prog 35 _ _ (.cell 4 3) (vI 0) from ⟨⟨w.heap.size, 0, none⟩, (by kernel_rfl), run_loadVar_cell (T := 3) ((((((hBw14).chg hCw15 (fun hs => by have h : _ = _ := hs; omega))).book hBkw16)).cell rfl)⟩) (show resVal Tryd.prog 35 _ _ (.cell 5 31) (vI 0) from ⟨⟨w1.heap.size, 0, none⟩, (by kernel_rfl), run_loadVar_cell (T := 31) ((((hBw15).book hBkw16)).cell rfl)⟩)) ?_
    have hX3 : Ext w w16 := ((Ext.own (Ext.own hEw hCw14 (by omega)) hCw15 (by omega)).book hBkw16 (by omega))
    rw [show flt l = 0 from flt_none (by rw [← hlen]; exact hnf)]; exact ⟨rfl, hX3⟩
  · rintro D cc k w17 hD hk ⟨rfl, hnf, hfk, hB4, hB5, hEw⟩ hM
    have hl4 := hB4.lt; have hl5 := hB5.lt
    have hzr := hEw.size
    have hMl := hM.lt
    refine wpC_ret (inBlock_ret (then_ret ?_))
    obtain ⟨w18, hTw18, hCw18, hBkw18⟩ := take_mark (P := Tryd.prog) hM
    have hzw18 := hCw18.size
    refine retM hTw18 (run_res2 (by kernel_rfl) (show resVal Tryd.prog 35 _ _ (.cell 4 3) (vI (k + 1)) from ⟨⟨w.heap.size, 0, none⟩, (by kernel_rfl), run_loadVar_cell (T := 3) ((((hB4).book hBkw18)).cell rfl)⟩) (show resVal Tryd.prog 35 _ _ (.cell 5 31) (vI 13) from ⟨⟨w1.heap.size, 0, none⟩, (by kernel_rfl), run_loadVar_cell (T := 31) ((((hB5).book hBkw18)).cell rfl)⟩)) ?_
    rw [show flt l = k + 1 from flt_stop (by omega) hnf hfk]; exact ⟨rfl, (hEw.book hBkw18 (by omega))⟩

theorem c_Snd (n : Nat) {lo_l hi_l : Nat} {a_l : Option Addr} {n_l c_l : Nat} {l : List Cel}  (w : World) (h_l : Ms celC 34 lo_l hi_l w a_l n_l c_l l) (hp0 : 1 ≤ n) (hp1 : n ≤ 4096) (hg0 : Gl 0 [vI 45, vI 33] w) (hg1 : Gl 1 (w8C iniA) w) (hg2 : Gl 2 (w64C kA) w) :
    Calls Tryd.prog 20 #[(vI n), (.slice a_l n_l c_l)] w (Ret fun r w' => r = (.tuple #[(vI (sndA n l)), (vI (sndE n l))]) ∧ Ext w w') := by
  have hlen := h_l.len_eq
  by_cases h0 : n_l = 0
  · have h1 : l.length = 0 := by omega
    unfold sndA sndE; rw [if_pos h1, if_pos h1]; exact c_SndNil n w h_l hp0 hp1 h0 hg0 hg1 hg2
  · have h1 : ¬ l.length = 0 := by omega
    unfold sndA sndE; rw [if_neg h1, if_neg h1]
    cases h2 : (cel l 0).eqb (freC n) with
    | false => rw [if_pos rfl, if_pos rfl]; exact c_SndDif n w h_l hp0 hp1 (by omega) h2 hg0 hg1 hg2
    | true => rw [if_neg (by simp), if_neg (by simp)]; exact c_SndOk n w h_l hp0 hp1 (by omega) h2 hg0 hg1 hg2

theorem c_ClipI {lo_l hi_l : Nat} {a_l : Option Addr} {n_l c_l : Nat} {l : List Nat}  (w : World) (h_l : Es (nv .i64) lo_l hi_l w a_l n_l c_l l) :
    Calls Tryd.prog 33 #[(.slice a_l n_l c_l)] w (Ret fun r w' => ∃ a0, r = (.slice a0 n_l n_l) ∧ Es (nv .i64) lo_l w'.heap.size w' a0 n_l n_l l ∧ w = w') := by
  refine calls_of (n := 9) (σ := [(0, (.slice a_l n_l c_l))]) Tryd.func33 rfl ?_
  replace h_l := h_l.now; have hle_l := h_l.le
  refine wpC_seq (wpC_region (wpF_run 1 [(2, (.slice none 0 0))] (wpF_end (then_code (wpC_seq (wpC_region (wpF_run 5 [(7, (vI n_l)), (6, (.slice a_l n_l c_l)), (5, (vI n_l)), (4, (.slice a_l n_l c_l)), (3, (.slice a_l n_l c_l))] ?_)))))))
  obtain ⟨a1, hR1, hS1⟩ := h_l.slice Tryd.prog 56 3 0 n_l n_l none (some (vI n_l)) (some (vI n_l))
  refine wpF_step (op_v (some 8) (Instr.sliceAt 56 (.slice a_l n_l c_l) none (some (vI n_l)) (some (vI n_l))) (.slice a1 (n_l - 0) (n_l - 0)) (hR1 _) ?_)
  refine wpF_run 1 [(2, (.slice a1 (n_l - 0) (n_l - 0)))] (wpF_end (then_code (wpC_ret (body_rets (.slice a1 (n_l - 0) (n_l - 0)) ?_))))
  have hfin := hS1
  rw [List.drop_zero, Nat.sub_zero, show l.take n_l = l from by rw [h_l.len_eq, List.take_length]] at hfin
  exact ⟨_, rfl, hfin.mono (Nat.le_refl _) (by omega), rfl⟩

theorem c_Commits {lo_l hi_l : Nat} {a_l : Option Addr} {n_l c_l : Nat} {l : List Cel}  (w : World) (h_l : Ms celC 34 lo_l hi_l w a_l n_l c_l l) (hp0 : n_l ≤ 4096) :
    Calls Tryd.prog 21 #[(.slice a_l n_l c_l)] w (Ret fun r w' => ∃ a0, r = (.slice a0 ((com l (n_l - 1)).length) ((com l (n_l - 1)).length)) ∧ Es (nv .i64) w.heap.size w'.heap.size w' a0 ((com l (n_l - 1)).length) ((com l (n_l - 1)).length) (com l (n_l - 1)) ∧ Ext w w') := by
  refine calls_ofM (n := 18) (σ := [(0, (.slice a_l n_l c_l))]) Tryd.func21 rfl ?_
  replace h_l := h_l.now; have hle_l := h_l.le
  have hlen := h_l.len_eq
  refine wpC_seq (wpC_region (wpF_run 1 [(2, (.slice none 0 0))] (wpF_end (then_code (wpC_seq (wpC_region (wpF_step (op_new (some 3) (Instr.alloc 56 true (.tuple #[])) (vP w.heap.size 0) ([(.slice none 0 0)]) 56 ?_))))))))
  intro w1 hBw1 hEw1
  have hzw1 := hEw1.size; have hlw1 := hBw1.lt
  refine wpF_end (then_code (wpC_seq (wpC_seq (wpC_region (wpF_run 1 [(6, (.slice a_l n_l c_l))] (wpF_step (op_call (some 7) (c_steps _ (h_l.ext hEw1)) ?_)))))))
  rintro _ w2 ⟨a1, rfl, hFz1_0, hFz1_1, hEw2⟩
  have hzw2 := hEw2.size
  have hla1 := hFz1_1.lt
  refine wpF_end (then_code (wpC_block (wpC_range [8, 9] 39 [(vP a1 0)] (n_l - 1) (fun k => [(vI (k + 1)), (vB (fk l k))]) (fun b => b = w.heap.size) (fun b => False) (fun k w' => ∃ a cp, w2.heap.size ≤ w'.heap.size ∧ Blk w' w.heap.size [.slice a (com l k).length cp] 56 ∧ Cs.Own (nv .i64) w2.heap.size w'.heap.size w' a (com l k).length cp 3 (com l k) ∧ Ext w w') (fun cc k w' => False) (fun b hb => hb.elim) (fun _ => rfl) (fun k W W' ⟨a, cp, h0, h1, h2, h3⟩ hb => ⟨a, cp, Nat.le_trans h0 hb.size, h1.book hb, (h2.book hb).mono (Nat.le_refl _) hb.size, h3.book hb (by omega)⟩) (fun _ _ _ _ h _ => h) (fun k W W' ⟨a, cp, h0, h1, h2, h3⟩ hc => ⟨a, cp, Nat.le_trans h0 hc.size, h1.ext hc, (h2.ext hc).mono (Nat.le_refl _) hc.size, h3.trans hc⟩) (⟨none, 0, Nat.le_refl _, (hBw1.ext hEw2), Cs.Own.nil _ _ _ _ _, (hEw1.trans hEw2)⟩) (fun lp J Jx w1 hE1 hJ hY h0 => i_steps (l := l) w2.heap.size lp _ J Jx w1 (hFz1_1.ext hE1) ((((h_l.ext hEw1)).ext hEw2).ext hE1) (fun b hb => by omega) hJ hY h0) ?_ ?_ ?_)))
  · rintro lR k w3 hl ⟨a, cp, hsz, hB3, hO, hEw⟩ hk
    have hl3 := hB3.lt
    have hle := hO.es.le
    have hOe := hO.es
    have hzr := hEw.size
    have hclk := com_le l k
    refine wpC_seq (wpC_region (wpF_run 1 [(4, (vI (k + 1)))] (wpF_end (then_code (wpC_region (wpF_run 1 [(5, (vB (fk l k)))] (wpF_end (mid_mk (Kpt.refl _) (Chg.refl _ _) (fun w4 hBkw4 => ?_)))))))))
    have hzw4 := hBkw4.size
    refine wpC_block (wpC_seq (wpC_region (wpF_run 1 [(10, (vB (fk l k)))] (wpF_step (op_split (some 11) ((((fk l k : Nat) : Int) == ((1 : Nat) : Int))) (fun hc11 => ?_) (fun hc11 => ?_))))))
    · replace hc11 : fk l k = 1 := by have := of_eq_t hc11; omega
      refine wpF_end (then_code (wpC_true (wpC_region (wpF_step (op_v (some 12) (Instr.loadAt 56 (vP w.heap.size 0)) (.slice a ((com l k).length) cp) (rn_ld (((hB3).book hBkw4).cell rfl)) ?_)))))
      refine wpF_run 1 [(13, (vI (k + 1)))] (wpF_step (op_new (some 14) (Instr.buildSlice 56 1 #[(0, (vI (k + 1)))]) (.slice (pA w4.heap.size 0) 1 1) [(vI (k + 1))] 3 ?_))
      intro w5 hBw5 hEw5
      have hzw5 := hEw5.size; have hlw5 := hBw5.lt
      have hSw5 : Es (nv .i64) w4.heap.size (w4.heap.size + 1) w5 (pA w4.heap.size 0) 1 1 ([k + 1]) := Es.of_blk hBw5 rfl rfl (Nat.le_refl _) (by decide) (Nat.le_refl _) (Nat.lt_succ_self _)
      refine wpF_step (op_append (some 15) 56 56 3 8 (vI 0) ((((hO).book hBkw4)).ext hEw5) hSw5 (fun _ => rfl) ?_)
      intro a2 c1 w6 hOw6 hCw6
      have hzw6 := hCw6.size
      have hSw6 := hOw6.es
      have hK1 := ((((((hB3).book hBkw4)).ext hEw5)).chg hCw6 (fun hs => by have hn := ((((hO).book hBkw4)).ext hEw5).ne hs; omega))
      refine wpF_step (op_store1 56 w.heap.size 0 56 (.slice a2 ((com l k).length + 1) c1) ([.slice a (com l k).length cp]) hK1 (by first | decide | (simp; done) | (simp; omega)) ?_)
      have hK2 := ((((((hB3).book hBkw4)).ext hEw5)).chg hCw6 (fun hs => by have hn := ((((hO).book hBkw4)).ext hEw5).ne hs; omega))
      intro w7 hBw7 hCw7
      have hzw7 := hCw7.size
      replace hBw7 := hBw7.set1
      refine wpF_end (inBlock_normal ?_)
      have hX1 : Ext w w7 := (Ext.own (Ext.ownS ((hEw.book hBkw4 (by omega)).trans hEw5) hCw6 (fun k hs hk => by have hn := ((((hO).book hBkw4)).ext hEw5).ne hs; omega)) hCw7 (by omega))
      exact rpost_normal ((((Kpt.refl _).ext hEw5).own ((((hO).book hBkw4)).ext hEw5) hCw6).blk hK2 hCw7) (Chg.then (Chg.then ((Chg.refl _ _).trans hEw5.chg) hCw6 (fun k hk hs => by have hn := ((((hO).book hBkw4)).ext hEw5).ne hs; first | (left; omega) | (exfalso; omega))) hCw7 (fun k hk hs => by have h : k = _ := hs; first | (left; omega) | (exfalso; omega) | (right; simp [h]; done))) (by rw [com_len_yes (l := l) (k := k) (by omega), com_yes (l := l) (k := k) (by omega)]; exact ⟨_, _, by omega, hBw7, (((hOw6).chg hCw7 (fun k h1 h2 hs => by have h : k = _ := hs; omega))).now, hX1⟩)
    · replace hc11 : ¬ (fk l k = 1) := by have := of_eq_f hc11; omega
      exact wpF_end (then_code (wpC_false (wpC_skip (inBlock_normal (rpost_normal (Kpt.refl _) (Chg.refl _ _) (by rw [com_no (l := l) (k := k) (by omega)]; exact ⟨_, _, by omega, ((hB3).book hBkw4), (((hO).book hBkw4)).now, (hEw.book hBkw4 (by omega))⟩))))))
  · rintro D w8 hD ⟨a, cp, hsz, hB3, hO, hEw⟩ hM
    have hl3 := hB3.lt
    have hle := hO.es.le
    have hOe := hO.es
    have hzr := hEw.size
    have hMl := hM.lt
    refine inBlock_normal (then_code (wpC_seq (wpC_region (wpF_step (op_v (some 16) (Instr.loadAt 56 (vP w.heap.size 0)) (.slice a ((com l (n_l - 1)).length) cp) (rn_ld (hB3.cell rfl)) ?_)))))
    refine wpF_step (op_call (some 17) (c_ClipI _ hOe) ?_)
    rintro _ _ ⟨a3, rfl, hFz2_0, rfl⟩
    refine wpF_run 1 [(2, (.slice a3 ((com l (n_l - 1)).length) ((com l (n_l - 1)).length)))] (wpF_end (then_code (wpC_ret ?_)))
    obtain ⟨w9, hTw9, hCw9, hBkw9⟩ := take_mark (P := Tryd.prog) hM
    have hzw9 := hCw9.size
    exact bodyM_rets hTw9 (.slice a3 ((com l (n_l - 1)).length) ((com l (n_l - 1)).length)) (⟨_, rfl, (((hFz2_0).book hBkw9)).now.mono (by omega) (Nat.le_refl _), (hEw.book hBkw9 (by omega))⟩)
  · intro D cc k w10 hD hk hx; exact hx.elim

theorem c_BtwA {lo_l hi_l : Nat} {a_l : Option Addr} {n_l c_l : Nat} {l : List Cel} (a : Int) (b : Int)  (w : World) (h_l : Ms celC 34 lo_l hi_l w a_l n_l c_l l) (hp0 : a < 0) :
    Calls Tryd.prog 22 #[(.slice a_l n_l c_l), (.int .i64 a), (.int .i64 b)] w (Ret fun r w' => r = (.tuple #[(vQ 0), (vQ 0), (vI 1)]) ∧ Ext w w') := by
  refine calls_ofM (n := 56) (σ := [(0, (.slice a_l n_l c_l)), (1, (.int .i64 a)), (2, (.int .i64 b))]) Tryd.func22 rfl ?_
  replace h_l := h_l.now; have hle_l := h_l.le
  refine wpC_seq (wpC_region (wpF_step (op_new (some 6) (Instr.alloc 28 true (.tuple #[])) (vP w.heap.size 0) ([(vQ 0)]) 28 ?_)))
  intro w1 hBw1 hEw1
  have hzw1 := hEw1.size; have hlw1 := hBw1.lt
  refine wpF_step (op_new (some 7) (Instr.alloc 28 true (.tuple #[])) (vP w1.heap.size 0) ([(vQ 0)]) 28 ?_)
  intro w2 hBw2 hEw2
  have hzw2 := hEw2.size; have hlw2 := hBw2.lt
  refine wpF_step (op_new (some 8) (Instr.alloc 31 true (.tuple #[])) (vP w2.heap.size 0) ([(vI 0)]) 31 ?_)
  intro w3 hBw3 hEw3
  have hzw3 := hEw3.size; have hlw3 := hBw3.lt
  refine wpF_end (then_code (wpC_seq (wpC_seq (wpC_region (wpF_run 1 [(11, (.int .i64 a))] (wpF_step (op_b (some 12) (decide (a < ((0 : Nat) : Int))) true (cmpDT (by omega)) ?_)))))))
  refine wpF_run 11 [(23, vT), (22, undef), (21, undef), (20, undef), (19, vT), (18, vT), (17, undef), (16, undef), (15, undef), (14, undef), (13, vT)] (wpF_end (then_code (wpC_true (wpC_seq (wpC_region (wpF_step (op_store1 28 w.heap.size 0 28 (vQ 0) ([(vQ 0)]) (((hBw1.ext hEw2)).ext hEw3) (by first | decide | (simp; done) | (simp; omega)) ?_)))))))
  intro w4 hBw4 hCw4
  have hzw4 := hCw4.size
  replace hBw4 := hBw4.set1
  refine wpF_step (op_store1 28 w1.heap.size 0 28 (vQ 0) ([(vQ 0)]) (((hBw2.ext hEw3)).chg hCw4 (fun hs => by have h : _ = _ := hs; omega)) (by first | decide | (simp; done) | (simp; omega)) ?_)
  intro w5 hBw5 hCw5
  have hzw5 := hCw5.size
  replace hBw5 := hBw5.set1
  refine wpF_step (op_store1 31 w2.heap.size 0 31 (vI 1) ([(vI 0)]) ((((hBw3).chg hCw4 (fun hs => by have h : _ = _ := hs; omega))).chg hCw5 (fun hs => by have h : _ = _ := hs; omega)) (by first | decide | (simp; done) | (simp; omega)) ?_)
  intro w6 hBw6 hCw6
  have hzw6 := hCw6.size
  replace hBw6 := hBw6.set1
  refine wpF_end (then_code (wpC_ret (then_ret (bodyM0_ret (run_res3 (by kernel_rfl) (show resVal Tryd.prog 56 _ _ (.cell 6 28) (vQ 0) from ⟨⟨w.heap.size, 0, none⟩, (by kernel_rfl), run_loadVar_cell (T := 28) ((((((hBw4).chg hCw5 (fun hs => by have h : _ = _ := hs; omega))).chg hCw6 (fun hs => by have h : _ = _ := hs; omega))).cell rfl)⟩) (show resVal Tryd.prog 56 _ _ (.cell 7 28) (vQ 0) from ⟨⟨w1.heap.size, 0, none⟩, (by kernel_rfl), run_loadVar_cell (T := 28) ((((hBw5).chg hCw6 (fun hs => by have h : _ = _ := hs; omega))).cell rfl)⟩) (show resVal Tryd.prog 56 _ _ (.cell 8 31) (vI 1) from ⟨⟨w2.heap.size, 0, none⟩, (by kernel_rfl), run_loadVar_cell (T := 31) ((hBw6).cell rfl)⟩)) ?_))))
  have hX1 : Ext w w6 := (Ext.own (Ext.own (Ext.own ((hEw1.trans hEw2).trans hEw3) hCw4 (by omega)) hCw5 (by omega)) hCw6 (by omega))
  exact ⟨rfl, hX1⟩

theorem c_BtwB {lo_l hi_l : Nat} {a_l : Option Addr} {n_l c_l : Nat} {l : List Cel} (a : Int) (b : Int)  (w : World) (h_l : Ms celC 34 lo_l hi_l w a_l n_l c_l l) (hp0 : 0 ≤ a) (hp1 : (n_l : Int) ≤ b) :
    Calls Tryd.prog 22 #[(.slice a_l n_l c_l), (.int .i64 a), (.int .i64 b)] w (Ret fun r w' => r = (.tuple #[(vQ 0), (vQ 0), (vI 1)]) ∧ Ext w w') := by
  refine calls_ofM (n := 56) (σ := [(0, (.slice a_l n_l c_l)), (1, (.int .i64 a)), (2, (.int .i64 b))]) Tryd.func22 rfl ?_
  replace h_l := h_l.now; have hle_l := h_l.le
  refine wpC_seq (wpC_region (wpF_step (op_new (some 6) (Instr.alloc 28 true (.tuple #[])) (vP w.heap.size 0) ([(vQ 0)]) 28 ?_)))
  intro w1 hBw1 hEw1
  have hzw1 := hEw1.size; have hlw1 := hBw1.lt
  refine wpF_step (op_new (some 7) (Instr.alloc 28 true (.tuple #[])) (vP w1.heap.size 0) ([(vQ 0)]) 28 ?_)
  intro w2 hBw2 hEw2
  have hzw2 := hEw2.size; have hlw2 := hBw2.lt
  refine wpF_step (op_new (some 8) (Instr.alloc 31 true (.tuple #[])) (vP w2.heap.size 0) ([(vI 0)]) 31 ?_)
  intro w3 hBw3 hEw3
  have hzw3 := hEw3.size; have hlw3 := hBw3.lt
  refine wpF_end (then_code (wpC_seq (wpC_seq (wpC_region (wpF_run 1 [(11, (.int .i64 a))] (wpF_step (op_b (some 12) (decide (a < ((0 : Nat) : Int))) false (cmpDF (by omega)) ?_)))))))
  refine wpF_run 4 [(16, (vI n_l)), (15, (.slice a_l n_l c_l)), (14, (.int .i64 b)), (13, vF)] (wpF_step (op_b (some 17) (decide (b ≥ ((n_l : Nat) : Int))) true (cmpDT (by omega)) ?_))
  refine wpF_run 6 [(23, vT), (22, undef), (21, undef), (20, undef), (19, vT), (18, vT)] (wpF_end (then_code (wpC_true (wpC_seq (wpC_region (wpF_step (op_store1 28 w.heap.size 0 28 (vQ 0) ([(vQ 0)]) (((hBw1.ext hEw2)).ext hEw3) (by first | decide | (simp; done) | (simp; omega)) ?_)))))))
  intro w4 hBw4 hCw4
  have hzw4 := hCw4.size
  replace hBw4 := hBw4.set1
  refine wpF_step (op_store1 28 w1.heap.size 0 28 (vQ 0) ([(vQ 0)]) (((hBw2.ext hEw3)).chg hCw4 (fun hs => by have h : _ = _ := hs; omega)) (by first | decide | (simp; done) | (simp; omega)) ?_)
  intro w5 hBw5 hCw5
  have hzw5 := hCw5.size
  replace hBw5 := hBw5.set1
  refine wpF_step (op_store1 31 w2.heap.size 0 31 (vI 1) ([(vI 0)]) ((((hBw3).chg hCw4 (fun hs => by have h : _ = _ := hs; omega))).chg hCw5 (fun hs => by have h : _ = _ := hs; omega)) (by first | decide | (simp; done) | (simp; omega)) ?_)
  intro w6 hBw6 hCw6
  have hzw6 := hCw6.size
  replace hBw6 := hBw6.set1
  refine wpF_end (then_code (wpC_ret (then_ret (bodyM0_ret (run_res3 (by kernel_rfl) (show resVal Tryd.prog 56 _ _ (.cell 6 28) (vQ 0) from ⟨⟨w.heap.size, 0, none⟩, (by kernel_rfl), run_loadVar_cell (T := 28) ((((((hBw4).chg hCw5 (fun hs => by have h : _ = _ := hs; omega))).chg hCw6 (fun hs => by have h : _ = _ := hs; omega))).cell rfl)⟩) (show resVal Tryd.prog 56 _ _ (.cell 7 28) (vQ 0) from ⟨⟨w1.heap.size, 0, none⟩, (by kernel_rfl), run_loadVar_cell (T := 28) ((((hBw5).chg hCw6 (fun hs => by have h : _ = _ := hs; omega))).cell rfl)⟩) (show resVal Tryd.prog 56 _ _ (.cell 8 31) (vI 1) from ⟨⟨w2.heap.size, 0, none⟩, (by kernel_rfl), run_loadVar_cell (T := 31) ((hBw6).cell rfl)⟩)) ?_))))
  have hX1 : Ext w w6 := (Ext.own (Ext.own (Ext.own ((hEw1.trans hEw2).trans hEw3) hCw4 (by omega)) hCw5 (by omega)) hCw6 (by omega))
  exact ⟨rfl, hX1⟩

theorem c_BtwC {lo_l hi_l : Nat} {a_l : Option Addr} {n_l c_l : Nat} {l : List Cel} (a : Int) (b : Int)  (w : World) (h_l : Ms celC 34 lo_l hi_l w a_l n_l c_l l) (hp0 : 0 ≤ a) (hp1 : b < (n_l : Int)) (hp2 : b < a) :
    Calls Tryd.prog 22 #[(.slice a_l n_l c_l), (.int .i64 a), (.int .i64 b)] w (Ret fun r w' => r = (.tuple #[(vQ 0), (vQ 0), (vI 1)]) ∧ Ext w w') := by
  refine calls_ofM (n := 56) (σ := [(0, (.slice a_l n_l c_l)), (1, (.int .i64 a)), (2, (.int .i64 b))]) Tryd.func22 rfl ?_
  replace h_l := h_l.now; have hle_l := h_l.le
  refine wpC_seq (wpC_region (wpF_step (op_new (some 6) (Instr.alloc 28 true (.tuple #[])) (vP w.heap.size 0) ([(vQ 0)]) 28 ?_)))
  intro w1 hBw1 hEw1
  have hzw1 := hEw1.size; have hlw1 := hBw1.lt
  refine wpF_step (op_new (some 7) (Instr.alloc 28 true (.tuple #[])) (vP w1.heap.size 0) ([(vQ 0)]) 28 ?_)
  intro w2 hBw2 hEw2
  have hzw2 := hEw2.size; have hlw2 := hBw2.lt
  refine wpF_step (op_new (some 8) (Instr.alloc 31 true (.tuple #[])) (vP w2.heap.size 0) ([(vI 0)]) 31 ?_)
  intro w3 hBw3 hEw3
  have hzw3 := hEw3.size; have hlw3 := hBw3.lt
  refine wpF_end (then_code (wpC_seq (wpC_seq (wpC_region (wpF_run 1 [(11, (.int .i64 a))] (wpF_step (op_b (some 12) (decide (a < ((0 : Nat) : Int))) false (cmpDF (by omega)) ?_)))))))
  refine wpF_run 4 [(16, (vI n_l)), (15, (.slice a_l n_l c_l)), (14, (.int .i64 b)), (13, vF)] (wpF_step (op_b (some 17) (decide (b ≥ ((n_l : Nat) : Int))) false (cmpDF (by omega)) ?_))
  refine wpF_run 4 [(21, (.int .i64 b)), (20, (.int .i64 a)), (19, vF), (18, vF)] (wpF_step (op_b (some 22) (decide (a > b)) true (cmpDT (by omega)) ?_))
  refine wpF_run 1 [(23, vT)] (wpF_end (then_code (wpC_true (wpC_seq (wpC_region (wpF_step (op_store1 28 w.heap.size 0 28 (vQ 0) ([(vQ 0)]) (((hBw1.ext hEw2)).ext hEw3) (by first | decide | (simp; done) | (simp; omega)) ?_)))))))
  intro w4 hBw4 hCw4
  have hzw4 := hCw4.size
  replace hBw4 := hBw4.set1
  refine wpF_step (op_store1 28 w1.heap.size 0 28 (vQ 0) ([(vQ 0)]) (((hBw2.ext hEw3)).chg hCw4 (fun hs => by have h : _ = _ := hs; omega)) (by first | decide | (simp; done) | (simp; omega)) ?_)
  intro w5 hBw5 hCw5
  have hzw5 := hCw5.size
  replace hBw5 := hBw5.set1
  refine wpF_step (op_store1 31 w2.heap.size 0 31 (vI 1) ([(vI 0)]) ((((hBw3).chg hCw4 (fun hs => by have h : _ = _ := hs; omega))).chg hCw5 (fun hs => by have h : _ = _ := hs; omega)) (by first | decide | (simp; done) | (simp; omega)) ?_)
  intro w6 hBw6 hCw6
  have hzw6 := hCw6.size
  replace hBw6 := hBw6.set1
  refine wpF_end (then_code (wpC_ret (then_ret (bodyM0_ret (run_res3 (by kernel_rfl) (show resVal Tryd.prog 56 _ _ (.cell 6 28) (vQ 0) from ⟨⟨w.heap.size, 0, none⟩, (by kernel_rfl), run_loadVar_cell (T := 28) ((((((hBw4).chg hCw5 (fun hs => by have h : _ = _ := hs; omega))).chg hCw6 (fun hs => by have h : _ = _ := hs; omega))).cell rfl)⟩) (show resVal Tryd.prog 56 _ _ (.cell 7 28) (vQ 0) from ⟨⟨w1.heap.size, 0, none⟩, (by kernel_rfl), run_loadVar_cell (T := 28) ((((hBw5).chg hCw6 (fun hs => by have h : _ = _ := hs; omega))).cell rfl)⟩) (show resVal Tryd.prog 56 _ _ (.cell 8 31) (vI 1) from ⟨⟨w2.heap.size, 0, none⟩, (by kernel_rfl), run_loadVar_cell (T := 31) ((hBw6).cell rfl)⟩)) ?_))))
  have hX1 : Ext w w6 := (Ext.own (Ext.own (Ext.own ((hEw1.trans hEw2).trans hEw3) hCw4 (by omega)) hCw5 (by omega)) hCw6 (by omega))
  exact ⟨rfl, hX1⟩

theorem c_BtwBad {lo_l hi_l : Nat} {a_l : Option Addr} {n_l c_l : Nat} {l : List Cel} (a : Int) (b : Int)  (w : World) (h_l : Ms celC 34 lo_l hi_l w a_l n_l c_l l) (hp0 : ¬ (0 ≤ a ∧ a ≤ b ∧ b < (n_l : Int))) :
    Calls Tryd.prog 22 #[(.slice a_l n_l c_l), (.int .i64 a), (.int .i64 b)] w (Ret fun r w' => r = (.tuple #[(vQ 0), (vQ 0), (vI 1)]) ∧ Ext w w') := by
  by_cases h1 : a < 0
  · exact c_BtwA a b w h_l h1
  by_cases h2 : (n_l : Int) ≤ b
  · exact c_BtwB a b w h_l (by omega) h2
  · exact c_BtwC a b w h_l (by omega) (by omega) (by omega)

theorem c_Btw {lo_l hi_l : Nat} {a_l : Option Addr} {n_l c_l : Nat} {l : List Cel} (a : Nat) (b : Nat)  (w : World) (h_l : Ms celC 34 lo_l hi_l w a_l n_l c_l l) (hp0 : a ≤ b) (hp1 : b < n_l) :
    Calls Tryd.prog 22 #[(.slice a_l n_l c_l), (vI a), (vI b)] w (Ret fun r w' => r = (.tuple #[(vQ (if flt ((l.drop a).take (b + 1 - a)) = 0 then ((cel l b).ep + (2 ^ 64 - (cel l a).ep)) % 2 ^ 64 else 0)), (vQ (if flt ((l.drop a).take (b + 1 - a)) = 0 then ((cel l b).mark + (2 ^ 64 - (cel l a).mark)) % 2 ^ 64 else 0)), (vI (if flt ((l.drop a).take (b + 1 - a)) = 0 then 0 else 13))]) ∧ Ext w w') := by
  refine calls_ofM (n := 56) (σ := [(0, (.slice a_l n_l c_l)), (1, (vI a)), (2, (vI b))]) Tryd.func22 rfl ?_
  replace h_l := h_l.now; have hle_l := h_l.le
  have hlen := h_l.len_eq
  have hsl : ((l.drop a).take (b + 1 - a)).length = b + 1 - a := by simp; omega
  have q1 := (l.getD a Cel.zero).hep; have q2 := (l.getD a Cel.zero).hmk; have q3 := (l.getD b Cel.zero).hep; have q4 := (l.getD b Cel.zero).hmk
  refine wpC_seq (wpC_region (wpF_step (op_new (some 6) (Instr.alloc 28 true (.tuple #[])) (vP w.heap.size 0) ([(vQ 0)]) 28 ?_)))
  intro w1 hBw1 hEw1
  have hzw1 := hEw1.size; have hlw1 := hBw1.lt
  refine wpF_step (op_new (some 7) (Instr.alloc 28 true (.tuple #[])) (vP w1.heap.size 0) ([(vQ 0)]) 28 ?_)
  intro w2 hBw2 hEw2
  have hzw2 := hEw2.size; have hlw2 := hBw2.lt
  refine wpF_step (op_new (some 8) (Instr.alloc 31 true (.tuple #[])) (vP w2.heap.size 0) ([(vI 0)]) 31 ?_)
  intro w3 hBw3 hEw3
  have hzw3 := hEw3.size; have hlw3 := hBw3.lt
  refine wpF_end (then_code (wpC_seq (wpC_seq (wpC_region (wpF_run 1 [(11, (vI a))] (wpF_step (op_b (some 12) (decide (((a : Nat) : Int) < ((0 : Nat) : Int))) false (cmpDF (by omega)) ?_)))))))
  refine wpF_run 4 [(16, (vI n_l)), (15, (.slice a_l n_l c_l)), (14, (vI b)), (13, vF)] (wpF_step (op_b (some 17) (decide (((b : Nat) : Int) ≥ ((n_l : Nat) : Int))) false (cmpDF (by omega)) ?_))
  refine wpF_run 4 [(21, (vI b)), (20, (vI a)), (19, vF), (18, vF)] (wpF_step (op_b (some 22) (decide (((a : Nat) : Int) > ((b : Nat) : Int))) false (cmpDF (by omega)) ?_))
  refine wpF_run 1 [(23, vF)] (wpF_end (then_code (wpC_false (wpC_skip (then_code (wpC_seq (wpC_seq (wpC_region (wpF_run 3 [(26, (vI b)), (25, (vI a)), (24, (.slice a_l n_l c_l))] ?_)))))))))
  refine wpF_step (op_in (some 27) .i64 (IntKind.i64.wrap (((b : Nat) : Int) + ((1 : Nat) : Int))) (b + 1) (wrapS (by omega) (by omega) (by omega)) ?_)
  have hK1 := (((((h_l.ext hEw1)).ext hEw2)).ext hEw3)
  obtain ⟨a1, hR1, hS1⟩ := hK1.slice Tryd.prog 51 30 a (b + 1) c_l (some (vI a)) (some (vI (b + 1))) none
  refine wpF_step (op_v (some 28) (Instr.sliceAt 51 (.slice a_l n_l c_l) (some (vI a)) (some (vI (b + 1))) none) (.slice a1 (b + 1 - a) (c_l - a)) (hR1 _) ?_)
  refine wpF_step (op_call (some 29) (c_steps _ hS1) ?_)
  rintro _ w4 ⟨a2, rfl, hFz1_0, hFz1_1, hEw4⟩
  have hzw4 := hEw4.size
  have hla2 := hFz1_1.lt
  refine wpF_end (then_code (wpC_block ?_))
  have hK2 := (((((hBw1.ext hEw2)).ext hEw3)).ext hEw4)
  have hX1 : Ext w w4 := (((hEw1.trans hEw2).trans hEw3).trans hEw4)
  refine wpC_range [30, 31] 39 [(vP a2 0)] (b + 1 - a - 1) (fun k => [(vI (k + 1)), (vB (fk ((l.drop a).take (b + 1 - a)) k))]) (fun b => b = w.heap.size ∨ b = w1.heap.size ∨ b = w2.heap.size) (fun b => False) (fun k w' => noF ((l.drop a).take (b + 1 - a)) k ∧ Blk w' w.heap.size [vQ 0] 28 ∧ Blk w' w1.heap.size [vQ 0] 28 ∧ Blk w' w2.heap.size [vI 0] 31 ∧ Ext w w') (fun cc k w' => cc = .ret ∧ noF ((l.drop a).take (b + 1 - a)) k ∧ fk ((l.drop a).take (b + 1 - a)) k = 0 ∧ Blk w' w.heap.size [vQ 0] 28 ∧ Blk w' w1.heap.size [vQ 0] 28 ∧ Blk w' w2.heap.size [vI 13] 31 ∧ Ext w w') (fun b hb => hb.elim) (fun _ => rfl) (fun k W W' ⟨h1, h2, h3, h5, h4⟩ hb => ⟨h1, h2.book hb, h3.book hb, h5.book hb, h4.book hb (by omega)⟩) (fun _ k W W' ⟨hc, h0, h1, h2, h3, h5, h4⟩ hb => ⟨hc, h0, h1, h2.book hb, h3.book hb, h5.book hb, h4.book hb (by omega)⟩) (fun k W W' ⟨h1, h2, h3, h5, h4⟩ hc => ⟨h1, h2.ext hc, h3.ext hc, h5.ext hc, h4.trans hc⟩) (⟨noF_zero _, hK2, (((hBw2.ext hEw3)).ext hEw4), (hBw3.ext hEw4), hX1⟩) (fun lp J Jx w1 hE1 hJ hY h0 => i_steps (l := (l.drop a).take (b + 1 - a)) w4.heap.size lp _ J Jx w1 (hFz1_1.ext hE1) ((hS1.ext hEw4).ext hE1) (fun b hb => by omega) hJ hY h0) ?_ ?_ ?_
  · rintro lR k w5 hl ⟨hnf, hB6, hB7, hB8, hEw⟩ hk
    have hl6 := hB6.lt; have hl7 := hB7.lt; have hl8 := hB8.lt
    have hzr := hEw.size
    refine wpC_region (wpF_run 1 [(10, (vB (fk ((l.drop a).take (b + 1 - a)) k)))] (wpF_end (mid_mk (Kpt.refl _) (Chg.refl _ _) (fun w6 hBkw6 => ?_))))
    have hzw6 := hBkw6.size
    refine wpC_block (wpC_seq (wpC_region (wpF_run 1 [(32, (vB (fk ((l.drop a).take (b + 1 - a)) k)))] (wpF_step (op_split (some 33) ((((fk ((l.drop a).take (b + 1 - a)) k : Nat) : Int) == ((0 : Nat) : Int))) (fun hc33 => ?_) (fun hc33 => ?_))))))
    · replace hc33 : fk ((l.drop a).take (b + 1 - a)) k = 0 := by have := of_eq_t hc33; omega
      refine wpF_end (then_code (wpC_true (wpC_seq (wpC_region (wpF_step (op_store1 28 w.heap.size 0 28 (vQ 0) ([vQ 0]) ((hB6).book hBkw6) (by first | decide | (simp; done) | (simp; omega)) ?_))))))
      intro w7 hBw7 hCw7
      have hzw7 := hCw7.size
      replace hBw7 := hBw7.set1
      refine wpF_step (op_store1 28 w1.heap.size 0 28 (vQ 0) ([vQ 0]) ((((hB7).book hBkw6)).chg hCw7 (fun hs => by have h : _ = _ := hs; omega)) (by first | decide | (simp; done) | (simp; omega)) ?_)
      intro w8 hBw8 hCw8
      have hzw8 := hCw8.size
      replace hBw8 := hBw8.set1
      have hK3 := ((((((hB8).book hBkw6)).chg hCw7 (fun hs => by have h : _ = _ := hs; omega))).chg hCw8 (fun hs => by have h : _ = _ := hs; omega))
      refine wpF_step (op_store1 31 w2.heap.size 0 31 (vI 13) ([vI 0]) hK3 (by first | decide | (simp; done) | (simp; omega)) ?_)
      have hK4 := ((((((hB8).book hBkw6)).chg hCw7 (fun hs => by have h : _ = _ := hs; omega))).chg hCw8 (fun hs => by have h : _ = _ := hs; omega))
      intro w9 hBw9 hCw9
      have hzw9 := hCw9.size
      replace hBw9 := hBw9.set1
      refine wpF_end (then_code (wpC_ret (inBlock_ret ?_)))
      have hX2 : Ext w w9 := (Ext.own (Ext.own (Ext.own (hEw.book hBkw6 (by omega)) hCw7 (by omega)) hCw8 (by omega)) hCw9 (by omega))
      exact rpost_ret ((((Kpt.refl _).blk ((hB6).book hBkw6) hCw7).blk ((((hB7).book hBkw6)).chg hCw7 (fun hs => by have h : _ = _ := hs; omega)) hCw8).blk hK4 hCw9) (Chg.then (Chg.then (Chg.then (Chg.refl _ _) hCw7 (fun k hk hs => by have h : k = _ := hs; first | (left; omega) | (exfalso; omega) | (right; simp [h]; done))) hCw8 (fun k hk hs => by have h : k = _ := hs; first | (left; omega) | (exfalso; omega) | (right; simp [h]; done))) hCw9 (fun k hk hs => by have h : k = _ := hs; first | (left; omega) | (exfalso; omega) | (right; simp [h]; done))) (⟨rfl, hnf, by omega, ((((hBw7).chg hCw8 (fun hs => by have h : _ = _ := hs; omega))).chg hCw9 (fun hs => by have h : _ = _ := hs; omega)), ((hBw8).chg hCw9 (fun hs => by have h : _ = _ := hs; omega)), hBw9, hX2⟩)
    · replace hc33 : ¬ (fk ((l.drop a).take (b + 1 - a)) k = 0) := by have := of_eq_f hc33; omega
      exact wpF_end (then_code (wpC_false (wpC_skip (inBlock_normal (rpost_normal (Kpt.refl _) (Chg.refl _ _) (⟨noF_succ hnf (by omega), ((hB6).book hBkw6), ((hB7).book hBkw6), ((hB8).book hBkw6), (hEw.book hBkw6 (by omega))⟩))))))
  · rintro D w10 hD ⟨hnf, hB6, hB7, hB8, hEw⟩ hM
    have hl6 := hB6.lt; have hl7 := hB7.lt; have hl8 := hB8.lt
    have hzr := hEw.size
    have hMl := hM.lt
    refine inBlock_normal (then_code (wpC_seq (wpC_drawM (Chg (fun k => k = w.heap.size ∨ k = w1.heap.size) w10.drew) 25 [(35, 1, 0), (36, 4, 0), (37, 51539607552, 3), (38, 68719476736, 4), (39, 137438953472, 8), (40, 1, 0), (41, 2, 0), (42, 1649267441664, 96), (43, 2199023255552, 128), (44, 4398046511104, 256), (45, 9070970929152, 528), (46, 1, 0), (47, 4, 0), (48, 105553116266496, 6144), (49, 140737488355328, 8192), (50, 281474976710656, 16384), (51, 1, 0), (52, 2, 0), (53, 3377699720527872, 196608), (54, 4503599627370496, 262144), (55, 9007199254740992, 524288), (56, 18577348462903296, 1081344), (0, 17592186044480, 2047), (0, 36028797018964096, 8388607), (0, 256, 16777215)] (fun hT572 => ?_))))
    have hEw11 : Ext w10 w10.drew := Ext.drew w10
    generalize w10.drew = w11 at hEw11 ⊢
    have hzw11 := hEw11.size
    refine anyM_run (hw := show Chg (fun k => k = w.heap.size ∨ k = w1.heap.size) w11 w11 from (Chg.refl (fun k => k = w.heap.size ∨ k = w1.heap.size) w11)) hT572 [(0, 34, (.slice a_l n_l c_l)), (1, 35, (vI b))] 2 3 ?_
    obtain ⟨b1, o1, rfl⟩ := h_l.addr (by omega) (by decide)
    refine anyM_take (hw := show Chg (fun k => k = w.heap.size ∨ k = w1.heap.size) w11 w11 from (Chg.refl (fun k => k = w.heap.size ∨ k = w1.heap.size) w11)) hT572 2 7 (some 36) (vP b1 (o1 + b * 34)) (yld_val (Instr.indexAt 51 (.slice (pA b1 o1) n_l c_l) (vI b)) (fun w' hC => rn_ixs (E := 30) (sz := 34) (by omega))) (anyM_run (hw := show Chg (fun k => k = w.heap.size ∨ k = w1.heap.size) w11 w11 from (Chg.refl (fun k => k = w.heap.size ∨ k = w1.heap.size) w11)) hT572 [(3, 37, (vP b1 (o1 + b * 34 + 32)))] 1 15 (anyM_take (hw := show Chg (fun k => k = w.heap.size ∨ k = w1.heap.size) w11 w11 from (Chg.refl (fun k => k = w.heap.size ∨ k = w1.heap.size) w11)) hT572 4 31 (some 38) (vQ ((l.getD b Cel.zero).ep)) (yld_val (Instr.loadAt 28 (vP b1 (o1 + b * 34 + 32))) (fun w' hC => rn_ld (((((h_l.ext hEw)).ext hEw11).chg hC (fun k h1 h2 hs => by rcases hs with hs | hs <;> omega)).cell (j := 32) Cel.zero (by omega) (cel_ep _)))) (anyM_run (hw := show Chg (fun k => k = w.heap.size ∨ k = w1.heap.size) w11 w11 from (Chg.refl (fun k => k = w.heap.size ∨ k = w1.heap.size) w11)) hT572 [(5, 39, (.slice (pA b1 o1) n_l c_l)), (6, 40, (vI a))] 2 127 (anyM_take (hw := show Chg (fun k => k = w.heap.size ∨ k = w1.heap.size) w11 w11 from (Chg.refl (fun k => k = w.heap.size ∨ k = w1.heap.size) w11)) hT572 7 255 (some 41) (vP b1 (o1 + a * 34)) (yld_val (Instr.indexAt 51 (.slice (pA b1 o1) n_l c_l) (vI a)) (fun w' hC => rn_ixs (E := 30) (sz := 34) (by omega))) ?_))))
    refine anyM_run (hw := show Chg (fun k => k = w.heap.size ∨ k = w1.heap.size) w11 w11 from (Chg.refl (fun k => k = w.heap.size ∨ k = w1.heap.size) w11)) hT572 [(8, 42, (vP b1 (o1 + a * 34 + 32)))] 1 511 (anyM_take (hw := show Chg (fun k => k = w.heap.size ∨ k = w1.heap.size) w11 w11 from (Chg.refl (fun k => k = w.heap.size ∨ k = w1.heap.size) w11)) hT572 9 1023 (some 43) (vQ ((l.getD a Cel.zero).ep)) (yld_val (Instr.loadAt 28 (vP b1 (o1 + a * 34 + 32))) (fun w' hC => rn_ld (((((h_l.ext hEw)).ext hEw11).chg hC (fun k h1 h2 hs => by rcases hs with hs | hs <;> omega)).cell (j := 32) Cel.zero (by omega) (cel_ep _)))) (anyM_take (hw := show Chg (fun k => k = w.heap.size ∨ k = w1.heap.size) w11 w11 from (Chg.refl (fun k => k = w.heap.size ∨ k = w1.heap.size) w11)) hT572 10 2047 (some 44) (vQ (((l.getD b Cel.zero).ep + (2 ^ 64 - ((l.getD a Cel.zero).ep))) % 2 ^ 64)) (yld_in .u64 (IntKind.u64.wrap ((((l.getD b Cel.zero).ep : Nat) : Int) - (((l.getD a Cel.zero).ep : Nat) : Int))) (wrapUsub (k := .u64) rfl (by show _ ≤ 2 ^ 64; omega))) (anyM_run (hw := show Chg (fun k => k = w.heap.size ∨ k = w1.heap.size) w11 w11 from (Chg.refl (fun k => k = w.heap.size ∨ k = w1.heap.size) w11)) hT572 [(11, 45, (.slice (pA b1 o1) n_l c_l)), (12, 46, (vI b))] 2 8191 (anyM_take (hw := show Chg (fun k => k = w.heap.size ∨ k = w1.heap.size) w11 w11 from (Chg.refl (fun k => k = w.heap.size ∨ k = w1.heap.size) w11)) hT572 13 16383 (some 47) (vP b1 (o1 + b * 34)) (yld_val (Instr.indexAt 51 (.slice (pA b1 o1) n_l c_l) (vI b)) (fun w' hC => rn_ixs (E := 30) (sz := 34) (by omega))) ?_))))
    refine anyM_run (hw := show Chg (fun k => k = w.heap.size ∨ k = w1.heap.size) w11 w11 from (Chg.refl (fun k => k = w.heap.size ∨ k = w1.heap.size) w11)) hT572 [(14, 48, (vP b1 (o1 + b * 34 + 33)))] 1 32767 (anyM_take (hw := show Chg (fun k => k = w.heap.size ∨ k = w1.heap.size) w11 w11 from (Chg.refl (fun k => k = w.heap.size ∨ k = w1.heap.size) w11)) hT572 15 65535 (some 49) (vQ ((l.getD b Cel.zero).mark)) (yld_val (Instr.loadAt 28 (vP b1 (o1 + b * 34 + 33))) (fun w' hC => rn_ld (((((h_l.ext hEw)).ext hEw11).chg hC (fun k h1 h2 hs => by rcases hs with hs | hs <;> omega)).cell (j := 33) Cel.zero (by omega) (cel_mk _)))) (anyM_run (hw := show Chg (fun k => k = w.heap.size ∨ k = w1.heap.size) w11 w11 from (Chg.refl (fun k => k = w.heap.size ∨ k = w1.heap.size) w11)) hT572 [(16, 50, (.slice (pA b1 o1) n_l c_l)), (17, 51, (vI a))] 2 262143 (anyM_take (hw := show Chg (fun k => k = w.heap.size ∨ k = w1.heap.size) w11 w11 from (Chg.refl (fun k => k = w.heap.size ∨ k = w1.heap.size) w11)) hT572 18 524287 (some 52) (vP b1 (o1 + a * 34)) (yld_val (Instr.indexAt 51 (.slice (pA b1 o1) n_l c_l) (vI a)) (fun w' hC => rn_ixs (E := 30) (sz := 34) (by omega))) (anyM_run (hw := show Chg (fun k => k = w.heap.size ∨ k = w1.heap.size) w11 w11 from (Chg.refl (fun k => k = w.heap.size ∨ k = w1.heap.size) w11)) hT572 [(19, 53, (vP b1 (o1 + a * 34 + 33)))] 1 1048575 ?_))))
    refine anyM_take (hw := show Chg (fun k => k = w.heap.size ∨ k = w1.heap.size) w11 w11 from (Chg.refl (fun k => k = w.heap.size ∨ k = w1.heap.size) w11)) hT572 20 2097151 (some 54) (vQ ((l.getD a Cel.zero).mark)) (yld_val (Instr.loadAt 28 (vP b1 (o1 + a * 34 + 33))) (fun w' hC => rn_ld (((((h_l.ext hEw)).ext hEw11).chg hC (fun k h1 h2 hs => by rcases hs with hs | hs <;> omega)).cell (j := 33) Cel.zero (by omega) (cel_mk _)))) (anyM_take (hw := show Chg (fun k => k = w.heap.size ∨ k = w1.heap.size) w11 w11 from (Chg.refl (fun k => k = w.heap.size ∨ k = w1.heap.size) w11)) hT572 21 4194303 (some 55) (vQ (((l.getD b Cel.zero).mark + (2 ^ 64 - ((l.getD a Cel.zero).mark))) % 2 ^ 64)) (yld_in .u64 (IntKind.u64.wrap ((((l.getD b Cel.zero).mark : Nat) : Int) - (((l.getD a Cel.zero).mark : Nat) : Int))) (wrapUsub (k := .u64) rfl (by show _ ≤ 2 ^ 64; omega))) (anyM_one 22 8388607 (op_store1 28 w.heap.size 0 28 (vQ (((l.getD b Cel.zero).ep + (2 ^ 64 - ((l.getD a Cel.zero).ep))) % 2 ^ 64)) ([vQ 0]) (hB6.ext hEw11) (by first | decide | (simp; done) | (simp; omega)) ?_)))
    intro w12 hBw12 hCw12
    have hzw12 := hCw12.size
    replace hBw12 := hBw12.set1
    refine ⟨.inr (Chg.then (Chg.refl (fun k => k = w.heap.size ∨ k = w1.heap.size) w11) hCw12 (fun k hk hs => by have h : k = _ := hs; first | exact hs | exact .inl h | exact .inr h | (exfalso; omega))), ?_⟩
    refine anyM_one 23 16777215 (op_store1 28 w1.heap.size 0 28 (vQ (((l.getD b Cel.zero).mark + (2 ^ 64 - ((l.getD a Cel.zero).mark))) % 2 ^ 64)) ([vQ 0]) (((hB7.ext hEw11)).chg hCw12 (fun hs => by have h : _ = _ := hs; omega)) (by first | decide | (simp; done) | (simp; omega)) ?_)
    intro w13 hBw13 hCw13
    have hzw13 := hCw13.size
    replace hBw13 := hBw13.set1
    refine ⟨.inr (Chg.then (Chg.then (Chg.refl (fun k => k = w.heap.size ∨ k = w1.heap.size) w11) hCw12 (fun k hk hs => by have h : k = _ := hs; first | exact hs | exact .inl h | exact .inr h | (exfalso; omega))) hCw13 (fun k hk hs => by have h : k = _ := hs; first | exact hs | exact .inl h | exact .inr h | (exfalso; omega))), ?_⟩
    have hK5 := (((((hB8.ext hEw11)).chg hCw12 (fun hs => by have h : _ = _ := hs; omega))).chg hCw13 (fun hs => by have h : _ = _ := hs; omega))
    refine anyM_one 24 33554431 (op_store1 31 w2.heap.size 0 31 (vI 0) ([vI 0]) hK5 (by first | decide | (simp; done) | (simp; omega)) ?_)
    have hK6 := (((((hB8.ext hEw11)).chg hCw12 (fun hs => by have h : _ = _ := hs; omega))).chg hCw13 (fun hs => by have h : _ = _ := hs; omega))
    intro w14 hBw14 hCw14
    have hzw14 := hCw14.size
    replace hBw14 := hBw14.set1
    refine ⟨.inl (by kernel_rfl), ?_⟩
    refine anyM_done (then_code (wpC_ret ?_))
    have hK7 := (((((((hM.ext hEw11)).chg hCw12 (fun hs => by have h : _ = _ := hs; omega))).chg hCw13 (fun hs => by have h : _ = _ := hs; omega))).chg hCw14 (fun hs => by have h : _ = _ := hs; omega))
    obtain ⟨w15, hTw15, hCw15, hBkw15⟩ := take_mark (P := Tryd.prog) hK7
    have hzw15 := hCw15.size
    have hK8 := ((((((hBw12).chg hCw13 (fun hs => by have h : _ = _ := hs; omega))).chg hCw14 (fun hs => by have h : _ = _ := hs; omega))).book hBkw15)
    refine retM hTw15 (run_res3 (by kernel_rfl) (show resVal Tryd.prog 56 _ _ (.cell 6 28) (vQ (((l.getD b Cel.zero).ep + (2 ^ 64 - ((l.getD a Cel.zero).ep))) % 2 ^ 64)) from ⟨⟨w.heap.size, 0, none⟩, (by kernel_rfl), run_loadVar_cell (T := 28) ((hK8).cell rfl)⟩) (show resVal Tryd.prog 56 _ _ (.cell 7 28) (vQ (((l.getD b Cel.zero).mark + (2 ^ 64 - ((l.getD a Cel.zero).mark))) % 2 ^ 64)) from ⟨⟨w1.heap.size, 0, none⟩, (by kernel_rfl), run_loadVar_cell (T := 28) ((((((hBw13).chg hCw14 (fun hs => by have h : _ = _ := hs; omega))).book hBkw15)).cell rfl)⟩) (show resVal Tryd.prog 56 _ _ (.cell 8 31) (vI 0) from ⟨⟨w2.heap.size, 0, none⟩, (by kernel_rfl), run_loadVar_cell (T := 31) ((((hBw14).book hBkw15)).cell rfl)⟩)) ?_
    have hX3 : Ext w w15 := ((Ext.own (Ext.own (Ext.own (hEw.trans hEw11) hCw12 (by omega)) hCw13 (by omega)) hCw14 (by omega)).book hBkw15 (by omega))
    rw [if_pos (flt_none (by rw [hsl]; exact hnf)), if_pos (flt_none (by rw [hsl]; exact hnf)), if_pos (flt_none (by rw [hsl]; exact hnf))]; exact ⟨rfl, hX3⟩
  · rintro D cc k w16 hD hk ⟨rfl, hnf, hfk, hB6, hB7, hB8, hEw⟩ hM
    have hl6 := hB6.lt; have hl7 := hB7.lt; have hl8 := hB8.lt
    have hzr := hEw.size
    have hMl := hM.lt
    refine wpC_ret (inBlock_ret (then_ret ?_))
    obtain ⟨w17, hTw17, hCw17, hBkw17⟩ := take_mark (P := Tryd.prog) hM
    have hzw17 := hCw17.size
    refine retM hTw17 (run_res3 (by kernel_rfl) (show resVal Tryd.prog 56 _ _ (.cell 6 28) (vQ 0) from ⟨⟨w.heap.size, 0, none⟩, (by kernel_rfl), run_loadVar_cell (T := 28) ((((hB6).book hBkw17)).cell rfl)⟩) (show resVal Tryd.prog 56 _ _ (.cell 7 28) (vQ 0) from ⟨⟨w1.heap.size, 0, none⟩, (by kernel_rfl), run_loadVar_cell (T := 28) ((((hB7).book hBkw17)).cell rfl)⟩) (show resVal Tryd.prog 56 _ _ (.cell 8 31) (vI 13) from ⟨⟨w2.heap.size, 0, none⟩, (by kernel_rfl), run_loadVar_cell (T := 31) ((((hB8).book hBkw17)).cell rfl)⟩)) ?_
    have hf : ¬ flt ((l.drop a).take (b + 1 - a)) = 0 := by rw [flt_stop (by rw [hsl]; omega) hnf hfk]; omega
    rw [if_neg hf, if_neg hf, if_neg hf]; exact ⟨rfl, (hEw.book hBkw17 (by omega))⟩

theorem c_BtwY {lo_l hi_l : Nat} {a_l : Option Addr} {n_l c_l : Nat} {l : List Cel} (a : Nat) (b : Nat)  (w : World) (h_l : Ms celC 34 lo_l hi_l w a_l n_l c_l l) (hp0 : a ≤ b) (hp1 : b < n_l) (hp2 : flt ((l.drop a).take (b + 1 - a)) = 0) :
    Calls Tryd.prog 22 #[(.slice a_l n_l c_l), (vI a), (vI b)] w (Ret fun r w' => r = (.tuple #[(vQ (((cel l b).ep + (2 ^ 64 - (cel l a).ep)) % 2 ^ 64)), (vQ (((cel l b).mark + (2 ^ 64 - (cel l a).mark)) % 2 ^ 64)), (vI 0)]) ∧ Ext w w') := by
  have h := c_Btw a b w h_l hp0 hp1
  rw [if_pos hp2, if_pos hp2, if_pos hp2] at h
  exact h


end Go.Proofs.YthjplefmfjkhfaaDoor
